/- Every call of crocuslaw08.FakeSettled returns true, on every schedule, and leaves its arguments as they were: conditions: the two listed package-level variables hold what the program's text lays. -/
import Derived.Test.YtoefdnbaklajeaaDoorE14a
set_option linter.unusedVariables false
set_option linter.unusedSimpArgs false
namespace Go.Proofs.YtoefdnbaklajeaaDoor
open Go
/-- Nodes lead nowhere: what is known of them does not hang on what may be read. -/
theorem rows_anyF {ρ ρ':Ro}:∀ {xs:List FNode} {cs:List Value},Rows ρ cs xs→Rows ρ' cs xs
 | [],_,h=>h
 | _ :: _,_,⟨c1,c2,h1,h2,h3⟩=>⟨c1,c2,h1,h2,rows_anyF h3⟩
theorem grow_anyF {ρ ρ':Ro} {el:TypeId} {v:Value} {xs:List FNode} {gr:Own} (h:Grow ρ el v xs gr):Grow ρ' el v xs gr :=
 ⟨h.1,h.2.1,h.2.2.imp id fun ⟨r,cap,cs,rs,gb,h1,h2,h3,h4,h5⟩=>⟨r,cap,cs,rs,gb,h1,h2,rows_anyF h3,h4,h5⟩⟩
section
variable {mn:Bool} {X:Frame→List Frame→Ro→Own→Cy→Prop} {ρ:Ro} {σ:Own}
theorem c_realZ {l:Lab} {vl:Value} {pick s:Nat} (h:realN l pick = s) (rl:Val ρ vl l) (ok:LabOk l) (hp:pick < 65536):CallsH (CX mn X) 47 #[vl,iV (pick:Int)] ρ σ (fun w ρ' σ'=>ρ' = ρ∧σ' = σ∧w = iV (s:Int)):=h ▸ c_real rl ok hp
theorem c_ShownGX {l:Lab} {vl vk:Value} {set many:Nat} {picks:List UH} {rs:List Found} (h:shownL l set picks many = rs) (rl:Val ρ vl l) (rk:Val ρ vk picks) (hs:set < 65536) (hm:many ≤ 8):CallsH (CX mn X) 48 #[vl,iV (set:Int),vk,iV (many:Int)] ρ σ (fun w ρ' σ'=>Ro.le ρ ρ'∧∃ gr,σ' = gr ++ σ∧Grow ρ' 43 w rs gr):=h ▸ c_ShownG rl rk hs hm
theorem c_TreeGX {l:Lab} {vl vr:Value} {rs:List Found} (hf:Cw l rs = 0) (hg:Glob ρ) (rl:Val ρ vl l) (rr:Val ρ vr rs):CallsH (CX mn X) 26 #[vl,vr] ρ σ (fun w ρ' σ'=>Ro.le ρ ρ'∧∃ v0 gr,w = .tuple #[v0,iV (Xx l rs),.bool (Yl l rs),.int .i64 0]∧σ' = gr ++ σ∧Grow ρ' 94 v0 (Za l rs) gr):=by
 have h:=c_TreeG (mn:=mn) (X:=X) (σ:=σ) hg rl rr; rw [hf] at h; exact h
theorem c_SettlesX {l:Lab} {vl vr vt:Value} {rs:List Found} {tree:List FNode} (hs:setlF l rs tree = 0) (hg:Glob ρ) (rl:Val ρ vl l) (rr:Val ρ vr rs) (rt:Val ρ vt tree) (htl:tree.length ≤ 1000000):CallsH (CX mn X) 52 #[vl,vr,vt] ρ σ (fun w ρ' σ'=>ρ' = ρ∧σ' = σ∧w = (.tuple #[.bool (setlB l rs tree),.int .i64 0])):=by
 have h:=c_Settles (mn:=mn) (X:=X) (σ:=σ) hg rl rr rt htl; rw [hs] at h; exact h
end
set_option maxHeartbeats 8000000 in
set_option maxRecDepth 100000 in
theorem c_FakeSettled {W0:World} {ρ:Ro} {σ:Own} {l:Lab} {picks:List UH} {many:Nat} {vl vk:Value} (hg:Glob ρ) (hnr:Js σ) (rl:Val ρ vl l) (rk:Val ρ vk picks) (hmany:many < 256):Agv (CY W0) 14 6 [vl,vk,(.int .u8 ((many:Int)))] ρ σ (fun w ρ' σ'=>ρ' = ρ∧σ' = σ∧w = (.bool (true))):=by
 refine body_fn (n:=179) Tryd.func14 rfl rfl rfl rfl fun Q hret hnor=>?_
 refine w_q rfl rfl fun K1 k1=>?_
 refine Ae rfl (Eb (v:=vl) rfl fun k2=>?_)
 refine Bb (a:=l) rl fun ρ2 l2 r2=>?_
 replace rl:=Asa l2 rl
 replace rk:=Asa l2 rk
 replace hg:=Glob.mono l2 hg
 refine l_A (.bool (false)) rfl rfl ?_
 apply Ac
 apply k1
 refine Ai fun K3 k3=>?_
 refine w_q rfl rfl fun K4 k4=>?_
 refine Ak rfl (Ax Aaj rfl r2) fun v5 r5=>?_
 refine Ae rfl (Cm (vs:=[v5]) (c_Great r5) Tryd.func23 rfl rfl ⟨rfl,trivial⟩ fun w6 ρ6 σ6 hc6=>?_)
 obtain ⟨hr6,hs6,b6_,hw6⟩:=hc6
 replace hr6:=hr6.symm; replace hs6:=hs6.symm; subst hr6 hs6 hw6
 refine l_M (.bool (b6_)) rfl rfl ?_
 refine Cn (b6_) (fun b7=>?_) (fun b7=>?_)
 ·refine Ap (Bl rfl rfl rfl b7) ?_
  refine Ap (Bl rfl rfl rfl b7) ?_
  refine Ap (Bl rfl rfl rfl b7) ?_
  refine Aa rfl (Bt rfl b7 (v:=(.bool (true))) rfl) ?_
  apply Ac
  apply k4
  refine Co rfl rfl ?_
  refine w_q rfl rfl fun K8 k8=>?_
  refine Ae rfl (Bn (vs:=[]) (v:=(.bool (true))) (calls_up (c_tells hg hnr)) Tryd.func17 rfl rfl trivial ?_)
  refine l_A (.bool (true)) rfl rfl ?_
  apply Ac
  apply k8
  refine Aj (Arw l2) ?_
  refine Aq ?_
  refine hret _ _ _ ?_
  refine ⟨rfl,rfl,Eq.trans (b:=(.bool (true))) rfl ?_⟩
  rfl
 refine Ak (Ar rfl rfl rfl b7) (Ax Aaj rfl r2) fun v9 r9=>?_
 refine Ae (Ar rfl rfl rfl b7) (Bn (vs:=[v9]) (v:=(iV (Gj l))) (c_refCheckLab r9) Tryd.func39 rfl rfl ⟨rfl,trivial⟩ ?_)
 refine Aa (Ar rfl rfl rfl b7) (Dg (p:=Gj l) (q:=0) rfl rfl) ?_
 refine Aa rfl (Bm rfl b7 (v:=(.bool (Gj l != 0))) rfl) ?_
 apply Ac
 apply k4
 refine As (t:=Gj l != 0) rfl (fun b10=>?_) (fun b10=>?_)
 ·have q10:=Mb b10
  refine w_q rfl rfl fun K11 k11=>?_
  refine Ae rfl (Bn (vs:=[]) (v:=(.bool (true))) (calls_up (c_tells hg hnr)) Tryd.func17 rfl rfl trivial ?_)
  refine l_A (.bool (true)) rfl rfl ?_
  apply Ac
  apply k11
  refine Aj (Arw l2) ?_
  refine Aq ?_
  refine hret _ _ _ ?_
  refine ⟨rfl,rfl,Eq.trans (b:=(.bool (true))) rfl ?_⟩
  rfl
 have hl0:=Jh b10
 have ok:=Lm hl0
 have hk4:=ok.n4
 have hnt:=ok.ntests
 have q10:=Jh b10
 refine Al ?_
 apply k3
 refine Ai fun K12 k12=>?_
 refine Dc [0,1,2,3,4] (by kernel_rfl) rfl rfl ?_
 refine Cd (i:=0) [o1,o0,o0,o0,o0] rfl (by kernel_rfl) rfl Ary rfl (Ax Aaj rfl r2) fun v13 r13=>?_
 refine Bg (i:=1) [o1,o1,o0,o0,o0] rfl (by kernel_rfl) rfl Ary rfl (Ah (v:=vk) rfl) ?_
 have hch14:=chooseN_lt (l:=picks) (k:=40)
 refine Dj (i:=2) [o1,o1,o1,o0,o0] rfl (by kernel_rfl) rfl rfl (Bn (vs:=[vk,(iV (40))]) (v:=(iV ((((chooseN picks 40):Nat):Int)))) (c_choose rk) Tryd.func30 rfl rfl ⟨rfl,rfl,trivial⟩ ⟨Ary,?_⟩)
 obtain ⟨set,hset⟩:∃ s,realN l ((chooseN picks 40)) = s:=⟨_,rfl⟩
 have hs1:set ∈ Hk l:=hset ▸ real_in ok
 have hs2:=sets_lt ok hs1
 refine Dj (i:=3) [o1,o1,o1,o1,o0] rfl (by kernel_rfl) rfl rfl (Bn (vs:=[v13,(iV ((((chooseN picks 40):Nat):Int)))]) (v:=(iV ((set:Int)))) (c_realZ hset r13 ok (by omega)) Tryd.func47 rfl rfl ⟨rfl,rfl,trivial⟩ ⟨Ary,?_⟩)
 refine Bg (i:=4) [o1,o1,o1,o1,o1] rfl (by kernel_rfl) rfl Ary rfl (Cp (v:=(iV ((set:Int)))) rfl) ?_
 refine Ec rfl ?_
 apply k12
 refine w_q rfl rfl fun K15 k15=>?_
 refine Ak rfl (Ax Aaj rfl r2) fun v16 r16=>?_
 refine l_M (iV ((set:Int))) rfl rfl ?_
 refine l_M vk rfl rfl ?_
 refine l_M (.int .u8 ((many:Int))) rfl rfl ?_
 refine Aa rfl (Abu (p:=(many:Int)) (z:=(many:Int)) Tryd.underlying5 Tryd.underlying3 rfl (Bo rfl (by omega) (by omega))) ?_
 refine Aa rfl (y_rem (p:=(many:Int)) (q:=4) rfl rfl (by omega) (z:=(((many % 4):Nat):Int)) rfl) ?_
 obtain ⟨rs,hrs⟩:∃ r,shownL l set picks ((many % 4)) = r:=⟨_,rfl⟩
 have hsh:=shown_law (l:=l) (set:=set) (picks:=picks) (many:=(many % 4)); rw [hrs] at hsh; obtain ⟨hsh1,hsh2,hsh3⟩:=hsh
 obtain ⟨hT1,hT2,hT3,hT4⟩:=true_law hl0 hsh1 (by omega) hs1 hsh3
 refine Ae rfl (Cm (vs:=[v16,(iV ((set:Int))),vk,(iV ((((many % 4):Nat):Int)))]) (c_ShownGX hrs r16 rk (by omega) (by omega)) Tryd.func48 rfl rfl ⟨rfl,rfl,rfl,rfl,trivial⟩ fun w17 ρ17 σ17 hc17=>?_)
 obtain ⟨l17,gr17,s17,G17⟩:=hc17
 subst s17
 replace rk:=Asa l17 rk
 replace hg:=Glob.mono l17 hg
 replace r2:=Arv l17 r2
 replace r16:=Asa l17 r16
 refine l_A w17 rfl rfl ?_
 apply Ac
 apply k15
 refine w_q rfl rfl fun K18 k18=>?_
 refine Ak rfl (Ax Aaj rfl r2) fun v19 r19=>?_
 refine l_M w17 rfl rfl ?_
 have sv20_rk:=rk
 have sv20_hg:=hg
 have sv20_r2:=r2
 have sv20_r16:=r16
 have sv20_G17:=G17
 have sv20_r19:=r19
 refine l_lend G17 fun ρ20 l20 r20 L20=>?_
 replace rk:=Asa l20 rk
 replace hg:=Glob.mono l20 hg
 replace r2:=Arv l20 r2
 replace G17:=Grow.mono l20 G17
 replace r19:=Asa l20 r19
 refine Ae rfl (Cm (vs:=[v19,w17]) (c_TreeGX hT1 hg r19 r20) Tryd.func26 rfl rfl ⟨rfl,rfl,trivial⟩ fun w21 ρ21 σ21 hc21=>?_)
 obtain ⟨l21,vt21,gr21,w21e,s21,G21⟩:=hc21
 subst s21 w21e
 replace rk:=Asa l21 rk
 replace hg:=Glob.mono l21 hg
 replace r2:=Arv l21 r2
 replace r19:=Asa l21 r19
 replace r20:=Asa l21 r20
 replace L20:=Lent.mono l21 L20
 refine l_back L20 (noRecv_grow G21 hnr) ?_
 replace rk:=sv20_rk
 replace hg:=sv20_hg
 replace r2:=sv20_r2
 replace r16:=sv20_r16
 replace G17:=sv20_G17
 replace r19:=sv20_r19
 replace G21:Grow ρ17 94 vt21 (Za l rs) gr21:=grow_anyF G21
 refine Bj (σ':=(gr21 ++ (gr17 ++ σ))) (Arx (List.perm_append_comm_assoc gr17 gr21 _)) ?_
 refine Ca G21 fun ρ22 l22 r22=>?_
 replace rk:=Asa l22 rk
 replace hg:=Glob.mono l22 hg
 replace r2:=Arv l22 r2
 replace G17:=Grow.mono l22 G17
 replace r19:=Asa l22 r19
 refine l_M (.tuple #[vt21,(iV (Xx l rs)),(.bool (Yl l rs)),(iV (0))]) rfl rfl ?_
 refine Aa rfl (Bk (vs:=#[vt21,(iV (Xx l rs)),(.bool (Yl l rs)),(iV (0))]) rfl (v:=vt21) rfl) ?_
 refine Aa rfl (Bk (vs:=#[vt21,(iV (Xx l rs)),(.bool (Yl l rs)),(iV (0))]) rfl (v:=(iV (Xx l rs))) rfl) ?_
 refine Aa rfl (Bk (vs:=#[vt21,(iV (Xx l rs)),(.bool (Yl l rs)),(iV (0))]) rfl (v:=(.bool (Yl l rs))) rfl) ?_
 refine Aa rfl (Bk (vs:=#[vt21,(iV (Xx l rs)),(.bool (Yl l rs)),(iV (0))]) rfl (v:=(iV (0))) rfl) ?_
 refine l_A vt21 rfl rfl ?_
 refine l_A (iV (Xx l rs)) rfl rfl ?_
 refine l_A (.bool (Yl l rs)) rfl rfl ?_
 refine l_A (iV (0)) rfl rfl ?_
 apply Ac
 apply k18
 refine Ai fun K23 k23=>?_
 refine w_q rfl rfl fun K24 k24=>?_
 refine l_M (iV (0)) rfl rfl ?_
 refine Aa rfl (Dg (p:=0) (q:=0) rfl rfl) ?_
 apply Ac
 apply k24
 refine Cg rfl rfl ?_
 refine Al ?_
 apply k23
 refine Ai fun K25 k25=>?_
 refine w_q rfl rfl fun K26 k26=>?_
 refine l_M (.bool (Yl l rs)) rfl rfl ?_
 refine Aa rfl (Ix (k:=Yl l rs) rfl) ?_
 apply Ac
 apply k26
 refine As (t:=!(Yl l rs)) rfl (fun b27=>?_) (fun b27=>?_)
 ·have b28:=not_eq_t b27
  obtain ⟨hN1,hN2⟩:=tree_none b28
  refine w_q rfl rfl fun K29 k29=>?_
  refine l_M vt21 rfl rfl ?_
  have g30:=Val.len r22
  refine Aa rfl (Ce (el:=94) Tryd.underlying49 rfl r22) ?_
  refine Aa rfl (Ek (p:=(((Za l rs).length:Nat):Int)) (q:=0) rfl rfl) ?_
  refine l_M (.bool ((((Za l rs).length:Nat):Int) == 0)) rfl rfl ?_
  refine l_M (iV (Xx l rs)) (Ar rfl rfl rfl (by rw [hN1]; rfl)) rfl ?_
  refine Aa (Ar rfl rfl rfl (by rw [hN1]; rfl)) (Ek (p:=Xx l rs) (q:=0) rfl rfl) ?_
  refine Aa rfl (Bt rfl (by rw [hN1]; rfl) (v:=(.bool (Xx l rs == 0))) rfl) ?_
  refine l_M (.bool (Xx l rs == 0)) rfl rfl ?_
  refine Ae (Ar rfl rfl rfl (by rw [hN2]; rfl)) (Bn (vs:=[]) (v:=(.bool (true))) (calls_up (c_tells hg (noRecv_grow G17 hnr))) Tryd.func17 rfl rfl trivial ?_)
  refine Aa rfl (Bt rfl (by rw [hN2]; rfl) (v:=(.bool (true))) rfl) ?_
  refine l_A (.bool (true)) rfl rfl ?_
  apply Ac
  apply k29
  refine Gy G17 fun ρ31 l31 r31=>?_
  replace hg:=Glob.mono l31 hg
  refine Aj (Arw (Arz (Arz (Arz l2 l17) l22) l31)) ?_
  refine Aq ?_
  refine hret _ _ _ ?_
  refine ⟨rfl,rfl,Eq.trans (b:=(.bool (true))) rfl ?_⟩
  rfl
 have b32:=not_eq_f b27
 obtain ⟨hS1,hS2,hS3,hS4,hS5,hS6,okT,hS8⟩:=settle_law hT1 b32 (mem_remain.2 ⟨hs1,hsh3⟩)
 refine Al ?_
 apply k25
 refine w_q rfl rfl fun K33 k33=>?_
 refine Ak rfl (Ax Aaj rfl r2) fun v34 r34=>?_
 refine l_M w17 rfl rfl ?_
 refine l_M vt21 rfl rfl ?_
 have sv35_rk:=rk
 have sv35_hg:=hg
 have sv35_r2:=r2
 have sv35_G17:=G17
 have sv35_r19:=r19
 have sv35_r22:=r22
 have sv35_r34:=r34
 refine l_lend G17 fun ρ35 l35 r35 L35=>?_
 replace rk:=Asa l35 rk
 replace hg:=Glob.mono l35 hg
 replace r2:=Arv l35 r2
 replace G17:=Grow.mono l35 G17
 replace r22:=Asa l35 r22
 replace r34:=Asa l35 r34
 refine Ae rfl (Bn (vs:=[v34,w17,vt21]) (v:=(.tuple #[(.bool (setlB l rs (Za l rs))),(iV (0))])) (c_SettlesX hS1 hg r34 r35 r22 (by omega)) Tryd.func52 rfl rfl ⟨rfl,rfl,rfl,trivial⟩ ?_)
 refine l_back L35 hnr ?_
 replace rk:=sv35_rk
 replace hg:=sv35_hg
 replace r2:=sv35_r2
 replace G17:=sv35_G17
 replace r19:=sv35_r19
 replace r22:=sv35_r22
 replace r34:=sv35_r34
 refine l_M (.tuple #[(.bool (setlB l rs (Za l rs))),(iV (0))]) rfl rfl ?_
 refine Aa rfl (Bk (vs:=#[(.bool (setlB l rs (Za l rs))),(iV (0))]) rfl (v:=(.bool (setlB l rs (Za l rs)))) rfl) ?_
 refine Aa rfl (Bk (vs:=#[(.bool (setlB l rs (Za l rs))),(iV (0))]) rfl (v:=(iV (0))) rfl) ?_
 refine l_A (.bool (setlB l rs (Za l rs))) rfl rfl ?_
 refine l_A (iV (0)) rfl rfl ?_
 apply Ac
 apply k33
 refine Ai fun K36 k36=>?_
 refine w_q rfl rfl fun K37 k37=>?_
 refine l_M (iV (0)) rfl rfl ?_
 refine Aa rfl (Dg (p:=0) (q:=0) rfl rfl) ?_
 refine l_M (.bool (false)) rfl rfl ?_
 refine l_M (.bool (setlB l rs (Za l rs))) (Ar rfl rfl rfl rfl) rfl ?_
 refine Aa (Ar rfl rfl rfl rfl) (Ix (k:=setlB l rs (Za l rs)) rfl) ?_
 refine Aa rfl (Bm rfl rfl (v:=(.bool (!(setlB l rs (Za l rs))))) rfl) ?_
 refine l_M (.bool (!(setlB l rs (Za l rs)))) rfl rfl ?_
 refine l_M (iV (Xx l rs)) (Ar rfl rfl rfl (not_t hS2)) rfl ?_
 refine Aa (Ar rfl rfl rfl (not_t hS2)) (Da (p:=Xx l rs) (q:=0) rfl rfl) ?_
 refine Aa rfl (Bm rfl (not_t hS2) (v:=(.bool (decide (Xx l rs < 0)))) rfl) ?_
 refine l_M (.bool (decide (Xx l rs < 0))) rfl rfl ?_
 refine l_M (iV (Xx l rs)) (Ar rfl rfl rfl (decide_eq_false (by omega))) rfl ?_
 refine Ak (Ar rfl rfl rfl (decide_eq_false (by omega))) (Ay Lab.f_tests Tryd.underlying40 rfl rfl Vd (by decide) rfl r2) fun v38 r38=>?_
 refine Ak (Ar rfl rfl rfl (decide_eq_false (by omega))) (Ax Vd rfl r38) fun v39 r39=>?_
 have g40:=Val.len r39
 refine Aa (Ar rfl rfl rfl (decide_eq_false (by omega))) (Ce (el:=108) Tryd.underlying38 rfl r39) ?_
 refine Aa (Ar rfl rfl rfl (decide_eq_false (by omega))) (Gk (p:=Xx l rs) (q:=((l.tests.length:Nat):Int)) rfl rfl) ?_
 refine Aa rfl (Bm rfl (decide_eq_false (by omega)) (v:=(.bool (decide (Xx l rs > ((l.tests.length:Nat):Int))))) rfl) ?_
 refine l_M (.bool (decide (Xx l rs > ((l.tests.length:Nat):Int)))) rfl rfl ?_
 refine l_M (iV (Xx l rs)) (Ar rfl rfl rfl (decide_eq_false (by omega))) rfl ?_
 refine Aa (Ar rfl rfl rfl (decide_eq_false (by omega))) (Ek (p:=Xx l rs) (q:=0) rfl rfl) ?_
 refine l_M vt21 (Ar rfl rfl rfl (decide_eq_false (by omega))) rfl ?_
 have g41:=Val.len r22
 refine Aa (Ar rfl rfl rfl (decide_eq_false (by omega))) (Ce (el:=94) Tryd.underlying49 rfl r22) ?_
 refine Aa (Ar rfl rfl rfl (decide_eq_false (by omega))) (Ek (p:=(((Za l rs).length:Nat):Int)) (q:=0) rfl rfl) ?_
 refine Aa (Ar rfl rfl rfl (decide_eq_false (by omega))) (y_neqb Tryd.underlying4 (p:=Xx l rs == 0) (q:=(((Za l rs).length:Nat):Int) == 0) rfl rfl) ?_
 refine Aa rfl (Bm rfl (decide_eq_false (by omega)) (v:=(.bool ((Xx l rs == 0) != ((((Za l rs).length:Nat):Int) == 0)))) rfl) ?_
 apply Ac
 apply k37
 refine Cg rfl (by rw [show (Xx l rs == 0) = ((((Za l rs).length:Nat):Int) == 0) from by rw [Bool.eq_iff_iff,beq_iff_eq,beq_iff_eq]; omega]; simp) ?_
 refine Al ?_
 apply k36
 refine w_q rfl rfl fun K42 k42=>?_
 refine l_A (iV (0)) rfl rfl ?_
 refine l_A (iV (0)) rfl rfl ?_
 apply Ac
 apply k42
 refine Ai fun K43 k43=>?_
 refine w_q rfl rfl fun K44 k44=>?_
 refine l_M vt21 rfl rfl ?_
 have g45:=Val.len r22
 refine Aa rfl (Ce (el:=94) Tryd.underlying49 rfl r22) ?_
 refine Aa rfl (Ek (p:=(((Za l rs).length:Nat):Int)) (q:=0) rfl rfl) ?_
 apply Ac
 apply k44
 refine As (t:=(((Za l rs).length:Nat):Int) == 0) rfl (fun b46=>?_) (fun b46=>?_)
 ·have q46:=Jo b46
  refine Ag rfl rfl ?_
  refine l_A (iV ((-1))) rfl rfl ?_
  apply Ac
  apply k43
  refine Ai fun K47 k47=>?_
  refine Ao ?_
  have hF0:Follow l set (Za l rs) (Xx l rs) rs (-1) 0:=hS8 _ (by rw [if_pos (by omega)])
  refine Cc (fun mm ee dd ρ' σ'=>∃ (r:List Found) (a_:Int) (done:Nat) (ov48_8:Value) (og48_8:Own),(l.tests.length + 1 - done) = mm∧[] = dd∧Ro.le ρ22 ρ'∧(og48_8 ++ σ) = σ'∧ee 1 = vk∧ee 3 = (.pointer (some ⟨k2,0,none⟩))∧ee 7 = (iV ((set:Int)))∧ee 9 = vt21∧ee 10 = (iV (Xx l rs))∧ee 8 = ov48_8∧ee 14 = (iV (a_))∧ee 15 = (iV ((done:Int)))∧(Follow l set (Za l rs) (Xx l rs) r a_ done)∧(r.length ≤ 8 + done)∧Grow ρ' 43 ov48_8 r og48_8∧True) (m:=_) ⟨rs,(-1),0,w17,gr17,rfl,rfl,Ary,rfl,rfl,rfl,rfl,rfl,rfl,rfl,rfl,rfl,hF0,(by omega),G17,trivial⟩ ?_
  rintro m48 e48 _ ρ48 _ ⟨r,a_,done,ov48_8,og48_8,rfl,rfl,l48,rfl,h48_1,h48_3,h48_7,h48_9,h48_10,h48_8,h48_14,h48_15,p48_0,p48_1,OG48_8,_⟩
  replace rk:=Asa l48 rk
  replace hg:=Glob.mono l48 hg
  replace r2:=Arv l48 r2
  replace r22:=Asa l48 r22
  have hat:=p48_0.at_
  have hres:=p48_0.res
  refine Ai fun K49 k49=>?_
  refine w_q rfl rfl fun K50 k50=>?_
  refine Aa rfl (Ah (v:=(iV (a_))) h48_14) ?_
  refine Aa rfl (Uv (p:=a_) (q:=0) rfl rfl) ?_
  refine l_M (.bool (decide (a_ ≥ 0))) rfl rfl ?_
  refine Cn (decide (a_ ≥ 0)) (fun b51=>?_) (fun b51=>?_)
  ·have q51:=of_decide_eq_true b51
   refine Aa (Ar rfl rfl rfl b51) (Ah (v:=(iV (a_))) h48_14) ?_
   refine Aa (Ar rfl rfl rfl b51) (Ah (v:=vt21) h48_9) ?_
   have g52:=Val.len r22
   refine Aa (Ar rfl rfl rfl b51) (Ce (el:=94) Tryd.underlying49 rfl r22) ?_
   refine Aa (Ar rfl rfl rfl b51) (Da (p:=a_) (q:=(((Za l rs).length:Nat):Int)) rfl rfl) ?_
   refine Aa rfl (Bt rfl b51 (v:=(.bool (decide (a_ < (((Za l rs).length:Nat):Int))))) rfl) ?_
   refine l_M (.bool (decide (a_ < (((Za l rs).length:Nat):Int)))) rfl rfl ?_
   refine Cn (decide (a_ < (((Za l rs).length:Nat):Int))) (fun b53=>?_) (fun b53=>?_)
   ·have q53:=of_decide_eq_true b53
    refine Aa (Ar rfl rfl rfl b53) (Ah (v:=(iV ((done:Int)))) h48_15) ?_
    refine Ak (Ar rfl rfl rfl b53) (Ay Lab.f_tests Tryd.underlying40 rfl rfl Vd (by decide) h48_3 r2) fun v54 r54=>?_
    refine Ak (Ar rfl rfl rfl b53) (Ax Vd rfl r54) fun v55 r55=>?_
    have g56:=Val.len r55
    refine Aa (Ar rfl rfl rfl b53) (Ce (el:=108) Tryd.underlying38 rfl r55) ?_
    refine Aa (Ar rfl rfl rfl b53) (Tx (p:=(done:Int)) (q:=((l.tests.length:Nat):Int)) rfl rfl) ?_
    refine Aa rfl (Bt rfl b53 (v:=(.bool (decide ((done:Int) ≤ ((l.tests.length:Nat):Int))))) rfl) ?_
    apply Ac
    apply k50
    refine As (t:=decide ((done:Int) ≤ ((l.tests.length:Nat):Int))) rfl (fun b57=>?_) (fun b57=>?_)
    ·have q57:=of_decide_eq_true b57
     refine Al ?_
     apply k49
     refine Ao ?_
     refine w_q rfl rfl fun K58 k58=>?_
     refine Aa rfl (Ah (v:=vt21) h48_9) ?_
     refine Aa rfl (Ah (v:=(iV (a_))) h48_14) ?_
     obtain ⟨a60,ha60⟩:=Ed (xs:=Za l rs) (i:=(a_).toNat) (by omega)
     have ht_a60:=okT.test _ _ ha60
     obtain ⟨t61,f61,n61,rfl⟩:∃ (t:Nat) (f n:Int),a60 = ⟨(t:Int),f,n⟩:=⟨a60.test.toNat,a60.found,a60.not,by obtain ⟨x,y,z⟩:=a60; simp only [FNode.mk.injEq,and_true]; exact (Int.toNat_of_nonneg ht_a60.1).symm⟩
     have hT61a:=ht_a60.1; have hT61b:(t61:Int) < (l.tests.length:Int):=ht_a60.2
     have hFf61:f61 = -1∨(_∧f61 < _):=okT.found _ _ ha60; have hFn61:n61 = -1∨(_∧n61 < _):=okT.not _ _ ha60
     refine Ak rfl (Ci ((a_).toNat) Tryd.underlying49 ty94 rfl r22 (q:=a_) rfl (by omega) ha60) fun v59 r59=>?_
     refine Ak rfl (Ax ty94 rfl r59) fun v62 r62=>?_
     refine Ae rfl (Ct Aes fun k63=>?_)
     refine Cx rfl (Du (v:=v62) (a:=(⟨(t61:Int),f61,n61⟩:FNode)) (c:=Aly) ty94 rfl rfl r62 rfl ?_)
     refine Bb (a:=(⟨(t61:Int),f61,n61⟩:FNode)) r62 fun ρ64 l64 r64=>?_
     replace rk:=Asa l64 rk
     replace hg:=Glob.mono l64 hg
     replace r2:=Arv l64 r2
     replace r22:=Asa l64 r22
     replace OG48_8:=Grow.mono l64 OG48_8
     replace r59:=Arv l64 r59
     replace r62:=Asa l64 r62
     apply Ac
     apply k58
     refine Ai fun K65 k65=>?_
     refine w_q rfl rfl fun K66 k66=>?_
     refine Ak rfl (Ay FNode.f_test Tryd.underlying94 rfl rfl ty3 (by decide) rfl r64) fun v67 r67=>?_
     have ⟨g68a,g68b⟩:=At.rng r67
     refine Aa rfl (Bc ty3 rfl r67) ?_
     refine Aa rfl (Da (p:=(t61:Int)) (q:=0) rfl rfl) ?_
     refine l_M (.bool (decide ((t61:Int) < 0))) rfl rfl ?_
     refine Cn (decide ((t61:Int) < 0)) (fun b69=>?_) (fun b69=>?_)
     ·have q69:=of_decide_eq_true b69
      refine Ap (Bl rfl rfl rfl b69) ?_
      refine Ap (Bl rfl rfl rfl b69) ?_
      refine Ap (Bl rfl rfl rfl b69) ?_
      refine Ap (Bl rfl rfl rfl b69) ?_
      refine Ap (Bl rfl rfl rfl b69) ?_
      refine Ap (Bl rfl rfl rfl b69) ?_
      refine Aa rfl (Bt rfl b69 (v:=(.bool (true))) rfl) ?_
      apply Ac
      apply k66
      refine Co rfl rfl ?_
      refine w_q rfl rfl fun K70 k70=>?_
      refine l_A (.bool (false)) rfl rfl ?_
      apply Ac
      apply k70
      refine Gy OG48_8 fun ρ71 l71 r71=>?_
      replace hg:=Glob.mono l71 hg
      refine Aj (Arw (Arz (Arz (Arz (Arz (Arz l2 l17) l22) l48) l64) l71)) ?_
      refine Aq ?_
      refine hret _ _ _ ?_
      refine ⟨rfl,rfl,Eq.trans (b:=(.bool (false))) rfl ?_⟩
      exfalso; omega
     have q69:=of_decide_eq_false b69
     refine Ak (Ar rfl rfl rfl b69) (Ay FNode.f_test Tryd.underlying94 rfl rfl ty3 (by decide) rfl r64) fun v72 r72=>?_
     have ⟨g73a,g73b⟩:=At.rng r72
     refine Aa (Ar rfl rfl rfl b69) (Bc ty3 rfl r72) ?_
     refine Ak (Ar rfl rfl rfl b69) (Ay Lab.f_tests Tryd.underlying40 rfl rfl Vd (by decide) h48_3 r2) fun v74 r74=>?_
     refine Ak (Ar rfl rfl rfl b69) (Ax Vd rfl r74) fun v75 r75=>?_
     have g76:=Val.len r75
     refine Aa (Ar rfl rfl rfl b69) (Ce (el:=108) Tryd.underlying38 rfl r75) ?_
     refine Aa (Ar rfl rfl rfl b69) (Uv (p:=(t61:Int)) (q:=((l.tests.length:Nat):Int)) rfl rfl) ?_
     refine Aa rfl (Bm rfl b69 (v:=(.bool (decide ((t61:Int) ≥ ((l.tests.length:Nat):Int))))) rfl) ?_
     apply Ac
     apply k66
     refine As (t:=decide ((t61:Int) ≥ ((l.tests.length:Nat):Int))) rfl (fun b77=>?_) (fun b77=>?_)
     ·have q77:=of_decide_eq_true b77
      refine w_q rfl rfl fun K78 k78=>?_
      refine l_A (.bool (false)) rfl rfl ?_
      apply Ac
      apply k78
      refine Gy OG48_8 fun ρ79 l79 r79=>?_
      replace hg:=Glob.mono l79 hg
      refine Aj (Arw (Arz (Arz (Arz (Arz (Arz l2 l17) l22) l48) l64) l79)) ?_
      refine Aq ?_
      refine hret _ _ _ ?_
      refine ⟨rfl,rfl,Eq.trans (b:=(.bool (false))) rfl ?_⟩
      exfalso; omega
     have q77:=of_decide_eq_false b77
     refine Al ?_
     apply k65
     refine Ai fun K80 k80=>?_
     refine Dc [0,1,2,3,4,5,6,7,8,9,10,11,12,13] (by kernel_rfl) rfl rfl ?_
     refine Cd (i:=0) [o1,o0,o0,o0,o0,o0,o0,o0,o0,o0,o0,o0,o0,o0] rfl (by kernel_rfl) rfl Ary rfl (Ay FNode.f_test Tryd.underlying94 rfl rfl ty3 (by decide) rfl r64) fun v81 r81=>?_
     have ⟨g82a,g82b⟩:=At.rng r81
     refine Be (i:=1) [o1,o1,o0,o0,o0,o0,o0,o0,o0,o0,o0,o0,o0,o0] rfl (by kernel_rfl) rfl Ary rfl (Bc ty3 rfl r81) ?_
     refine Cd (i:=2) [o1,o1,o1,o0,o0,o0,o0,o0,o0,o0,o0,o0,o0,o0] rfl (by kernel_rfl) rfl Ary rfl (Ax Aaj h48_3 r2) fun v83 r83=>?_
     refine Be (i:=3) [o1,o1,o1,o1,o0,o0,o0,o0,o0,o0,o0,o0,o0,o0] rfl (by kernel_rfl) rfl Ary rfl (Ah (v:=(iV ((set:Int)))) h48_7) ?_
     refine Cd (i:=4) [o1,o1,o1,o1,o1,o0,o0,o0,o0,o0,o0,o0,o0,o0] rfl (by kernel_rfl) rfl Ary rfl (Ay FNode.f_test Tryd.underlying94 rfl rfl ty3 (by decide) rfl r64) fun v84 r84=>?_
     have ⟨g85a,g85b⟩:=At.rng r84
     refine Be (i:=5) [o1,o1,o1,o1,o1,o1,o0,o0,o0,o0,o0,o0,o0,o0] rfl (by kernel_rfl) rfl Ary rfl (Bc ty3 rfl r84) ?_
     refine Be (i:=6) [o1,o1,o1,o1,o1,o1,o1,o0,o0,o0,o0,o0,o0,o0] rfl (by kernel_rfl) rfl Ary rfl (Ah (v:=vk) h48_1) ?_
     refine Be (i:=7) [o1,o1,o1,o1,o1,o1,o1,o1,o0,o0,o0,o0,o0,o0] rfl (by kernel_rfl) rfl Ary rfl (Ah (v:=(iV ((done:Int)))) h48_15) ?_
     refine Be (i:=8) [o1,o1,o1,o1,o1,o1,o1,o1,o1,o0,o0,o0,o0,o0] rfl (by kernel_rfl) rfl Ary rfl (Br (p:=50) (q:=(done:Int)) rfl rfl (z:=(((50 + done):Nat):Int)) (Bo (by first | rfl | omega | (push_cast; rfl)) (by omega) (by omega))) ?_
     refine Acr (i:=9) (j:=12) [o1,o1,o1,o1,o1,o1,o1,o1,o1,o1,o0,o0,o0,o0] [o1,o1,o1,o1,o1,o1,o1,o1,o1,o0,o0,o0,o1,o0] rfl rfl (by kernel_rfl) rfl rfl rfl rfl ?_ ?_
     ·have hch86:=chooseN_lt (l:=picks) (k:=((50 + done)))
      refine Bn (vs:=[vk,(iV ((((50 + done):Nat):Int)))]) (v:=(iV ((((chooseN picks ((50 + done))):Nat):Int)))) (c_choose rk) Tryd.func30 rfl rfl ⟨rfl,rfl,trivial⟩ ⟨Ary,?_⟩
      refine Acr (i:=10) (j:=12) [o1,o1,o1,o1,o1,o1,o1,o1,o1,o1,o1,o0,o0,o0] [o1,o1,o1,o1,o1,o1,o1,o1,o1,o1,o0,o0,o1,o0] rfl rfl (by kernel_rfl) rfl rfl rfl rfl ?_ ?_
      ·refine Bn (vs:=[v83,(iV ((set:Int))),(iV ((t61:Int))),(iV ((((chooseN picks ((50 + done))):Nat):Int)))]) (v:=(.bool (shownB l set t61 ((chooseN picks ((50 + done))))))) (c_shown r83 (by omega) (by omega) (by omega)) Tryd.func54 rfl rfl ⟨rfl,rfl,rfl,rfl,trivial⟩ ⟨Ary,?_⟩
       have r87:Val ρ64 (.agg #[(iV ((t61:Int))),(.bool (shownB l set t61 ((chooseN picks ((50 + done))))))]) (⟨(t61:Int),shownB l set t61 ((chooseN picks ((50 + done))))⟩:Found):=Found.shut (x:=(⟨(t61:Int),shownB l set t61 ((chooseN picks ((50 + done))))⟩:Found)) (show I64 ((t61:Int)) from by constructor <;> omega)
       refine Be (i:=11) [o1,o1,o1,o1,o1,o1,o1,o1,o1,o1,o1,o1,o0,o0] rfl (by kernel_rfl) rfl Ary rfl (Dm (ns:=[1,1]) (vs:=[(0,(iV ((t61:Int)))),(1,(.bool (shownB l set t61 ((chooseN picks ((50 + done)))))))]) (zc:=Alq) (cs:=[(iV ((t61:Int))),(.bool (shownB l set t61 ((chooseN picks ((50 + done))))))]) Tryd.underlying43 Ahd rfl ⟨⟨_,Ab Tryd.typeInfo3,rfl⟩,⟨_,Ab Tryd.typeInfo4,rfl⟩,trivial⟩ (EvB.map ⟨⟨rfl,rfl⟩,⟨rfl,rfl⟩,trivial⟩) ((Bd (cs:=[(iV ((t61:Int)))]) rfl rfl (Nat.le_of_ble_eq_true rfl)).trans ((Bd (cs:=[(.bool (shownB l set t61 ((chooseN picks ((50 + done))))))]) rfl rfl (Nat.le_of_ble_eq_true rfl)).trans rfl))) ?_
       refine Dj (i:=12) [o1,o1,o1,o1,o1,o1,o1,o1,o1,o1,o1,o1,o1,o0] rfl (by kernel_rfl) rfl rfl (Ct Ahd fun k88=>⟨Ary,?_⟩)
       refine Fi (i:=13) [o1,o1,o1,o1,o1,o1,o1,o1,o1,o1,o1,o1,o1,o1] rfl (by kernel_rfl) rfl rfl (Du (v:=(.agg #[(iV ((t61:Int))),(.bool (shownB l set t61 ((chooseN picks ((50 + done))))))])) (a:=(⟨(t61:Int),shownB l set t61 ((chooseN picks ((50 + done))))⟩:Found)) (c:=Alq) Aax rfl rfl r87 rfl ⟨Ary,?_⟩)
       refine Ec rfl ?_
       apply k80
       refine Ng (a:=(⟨(t61:Int),shownB l set t61 ((chooseN picks ((50 + done))))⟩:Found)) r87 fun ρ89 l89 r89=>?_
       replace rk:=Asa l89 rk
       replace hg:=Glob.mono l89 hg
       replace r2:=Arv l89 r2
       replace r22:=Asa l89 r22
       replace OG48_8:=Grow.mono l89 OG48_8
       replace r64:=Arv l89 r64
       refine w_q rfl rfl fun K90 k90=>?_
       refine Aa rfl (Ah (v:=ov48_8) h48_8) ?_
       refine Ak rfl (Ax Aax rfl r89) fun v91 r91=>?_
       refine Ae rfl (Bi (α:=Found) (xs:=[(⟨(t61:Int),shownB l set t61 ((chooseN picks ((50 + done))))⟩:Found)]) (vs:=[v91]) Tryd.underlying41 Aax Ahd rfl (by decide) (Dl (os:=[.tmp 138]) ⟨rfl,trivial⟩) ⟨r91,trivial⟩ rfl (by decide) fun k92 cs92 R92=>?_)
       have G92:Grow ρ89 43 (.slice (some ⟨k92,0,none⟩) 1 1) ([(⟨(t61:Int),shownB l set t61 ((chooseN picks ((50 + done))))⟩:Found)]:List Found) [(k92,Res.obj (.cells cs92.toArray 43 (0,0)))]:=Bs R92 rfl (by decide)
       refine Ca G92 fun ρ94 l94 r94=>?_
       replace rk:=Asa l94 rk
       replace hg:=Glob.mono l94 hg
       replace r2:=Arv l94 r2
       replace r22:=Asa l94 r22
       replace OG48_8:=Grow.mono l94 OG48_8
       replace r64:=Arv l94 r64
       replace r89:=Arv l94 r89
       replace r91:=Asa l94 r91
       refine Ae rfl (Fx (σ:=σ) (gr:=og48_8) (xs:=r) (ys:=([(⟨(t61:Int),shownB l set t61 ((chooseN picks ((50 + done))))⟩:Found)]:List Found)) Tryd.underlying41 Tryd.underlying41 (Ab Tryd.typeInfo43) rfl (Nat.le_of_ble_eq_true rfl) rfl rfl rfl rfl OG48_8 r94 (by simp only [List.length_append,List.length_cons,List.length_nil] at *; omega) fun v93 gr93 G93=>?_)
       refine l_A v93 rfl rfl ?_
       apply Ac
       apply k90
       refine w_q rfl rfl fun K95 k95=>?_
       refine Ak rfl (Ay FNode.f_not Tryd.underlying94 rfl rfl ty3 (by decide) rfl r64) fun v96 r96=>?_
       have ⟨g97a,g97b⟩:=At.rng r96
       refine Aa rfl (Bc ty3 rfl r96) ?_
       refine l_A (iV (n61)) rfl rfl ?_
       apply Ac
       apply k95
       refine Ai fun K98 k98=>?_
       refine w_q rfl rfl fun K99 k99=>?_
       refine Ak rfl (Ay Found.f_found Tryd.underlying43 rfl rfl ty4 (by decide) rfl r89) fun v100 r100=>?_
       refine Aa rfl (Nw ty4 rfl r100) ?_
       apply Ac
       apply k99
       refine As (t:=shownB l set t61 ((chooseN picks ((50 + done))))) rfl (fun b102=>?_) (fun b102=>?_)
       ·refine Ag rfl rfl ?_
        refine Ak rfl (Ay FNode.f_found Tryd.underlying94 rfl rfl ty3 (by decide) rfl r64) fun v103 r103=>?_
        have ⟨g104a,g104b⟩:=At.rng r103
        refine Aa rfl (Bc ty3 rfl r103) ?_
        refine l_A (iV (f61)) rfl rfl ?_
        apply Ac
        apply k98
        refine Ag rfl rfl ?_
        refine Aa rfl (Ah (v:=(iV ((done:Int)))) h48_15) ?_
        refine Aa rfl (Br (p:=(done:Int)) (q:=1) rfl rfl (z:=(((done + 1):Nat):Int)) (Bo (by first | rfl | omega | (push_cast; rfl)) (by omega) (by omega))) ?_
        refine l_A (iV ((((done + 1):Nat):Int))) rfl rfl ?_
        apply Ac
        refine ⟨_,?_,((r ++ ([(⟨(t61:Int),shownB l set t61 ((chooseN picks ((50 + done))))⟩:Found)]:List Found))),(f61),((done + 1)),v93,gr93,rfl,rfl,(Arz (Arz (Arz l48 l64) l89) l94),rfl,h48_1,h48_3,h48_7,h48_9,h48_10,rfl,rfl,rfl,(by have hF:=(Follow.step (pick:=chooseN picks (50 + done)) p48_0 okT (by omega) ha60 rfl).2; rw [if_pos b102] at hF; exact hF),(by simp only [List.length_append,List.length_cons,List.length_nil]; omega),(Ga (rfl) G93),trivial⟩
        omega
       refine Al ?_
       apply k98
       refine Ag rfl rfl ?_
       refine Aa rfl (Ah (v:=(iV ((done:Int)))) h48_15) ?_
       refine Aa rfl (Br (p:=(done:Int)) (q:=1) rfl rfl (z:=(((done + 1):Nat):Int)) (Bo (by first | rfl | omega | (push_cast; rfl)) (by omega) (by omega))) ?_
       refine l_A (iV ((((done + 1):Nat):Int))) rfl rfl ?_
       apply Ac
       refine ⟨_,?_,((r ++ ([(⟨(t61:Int),shownB l set t61 ((chooseN picks ((50 + done))))⟩:Found)]:List Found))),(n61),((done + 1)),v93,gr93,rfl,rfl,(Arz (Arz (Arz l48 l64) l89) l94),rfl,h48_1,h48_3,h48_7,h48_9,h48_10,rfl,rfl,rfl,(by have hF:=(Follow.step (pick:=chooseN picks (50 + done)) p48_0 okT (by omega) ha60 rfl).2; rw [if_neg (by rw [b102]; exact Bool.false_ne_true)] at hF; exact hF),(by simp only [List.length_append,List.length_cons,List.length_nil]; omega),(Ga (rfl) G93),trivial⟩
       omega
      ·refine Ct Ahd fun k105=>⟨Ary,?_⟩
       refine Dj (i:=10) [o1,o1,o1,o1,o1,o1,o1,o1,o1,o1,o1,o0,o1,o0] rfl (by kernel_rfl) rfl rfl (Bn (vs:=[v83,(iV ((set:Int))),(iV ((t61:Int))),(iV ((((chooseN picks ((50 + done))):Nat):Int)))]) (v:=(.bool (shownB l set t61 ((chooseN picks ((50 + done))))))) (c_shown r83 (by omega) (by omega) (by omega)) Tryd.func54 rfl rfl ⟨rfl,rfl,rfl,rfl,trivial⟩ ⟨Ary,?_⟩)
       have r106:Val ρ64 (.agg #[(iV ((t61:Int))),(.bool (shownB l set t61 ((chooseN picks ((50 + done))))))]) (⟨(t61:Int),shownB l set t61 ((chooseN picks ((50 + done))))⟩:Found):=Found.shut (x:=(⟨(t61:Int),shownB l set t61 ((chooseN picks ((50 + done))))⟩:Found)) (show I64 ((t61:Int)) from by constructor <;> omega)
       refine Bg (i:=11) [o1,o1,o1,o1,o1,o1,o1,o1,o1,o1,o1,o1,o1,o0] rfl (by kernel_rfl) rfl Ary rfl (Dm (ns:=[1,1]) (vs:=[(0,(iV ((t61:Int)))),(1,(.bool (shownB l set t61 ((chooseN picks ((50 + done)))))))]) (zc:=Alq) (cs:=[(iV ((t61:Int))),(.bool (shownB l set t61 ((chooseN picks ((50 + done))))))]) Tryd.underlying43 Ahd rfl ⟨⟨_,Ab Tryd.typeInfo3,rfl⟩,⟨_,Ab Tryd.typeInfo4,rfl⟩,trivial⟩ (EvB.map ⟨⟨rfl,rfl⟩,⟨rfl,rfl⟩,trivial⟩) ((Bd (cs:=[(iV ((t61:Int)))]) rfl rfl (Nat.le_of_ble_eq_true rfl)).trans ((Bd (cs:=[(.bool (shownB l set t61 ((chooseN picks ((50 + done))))))]) rfl rfl (Nat.le_of_ble_eq_true rfl)).trans rfl))) ?_
       refine Fi (i:=13) [o1,o1,o1,o1,o1,o1,o1,o1,o1,o1,o1,o1,o1,o1] rfl (by kernel_rfl) rfl rfl (Du (v:=(.agg #[(iV ((t61:Int))),(.bool (shownB l set t61 ((chooseN picks ((50 + done))))))])) (a:=(⟨(t61:Int),shownB l set t61 ((chooseN picks ((50 + done))))⟩:Found)) (c:=Alq) Aax rfl rfl r106 rfl ⟨Ary,?_⟩)
       refine Ec rfl ?_
       apply k80
       refine Ng (a:=(⟨(t61:Int),shownB l set t61 ((chooseN picks ((50 + done))))⟩:Found)) r106 fun ρ107 l107 r107=>?_
       replace rk:=Asa l107 rk
       replace hg:=Glob.mono l107 hg
       replace r2:=Arv l107 r2
       replace r22:=Asa l107 r22
       replace OG48_8:=Grow.mono l107 OG48_8
       replace r64:=Arv l107 r64
       refine w_q rfl rfl fun K108 k108=>?_
       refine Aa rfl (Ah (v:=ov48_8) h48_8) ?_
       refine Ak rfl (Ax Aax rfl r107) fun v109 r109=>?_
       refine Ae rfl (Bi (α:=Found) (xs:=[(⟨(t61:Int),shownB l set t61 ((chooseN picks ((50 + done))))⟩:Found)]) (vs:=[v109]) Tryd.underlying41 Aax Ahd rfl (by decide) (Dl (os:=[.tmp 138]) ⟨rfl,trivial⟩) ⟨r109,trivial⟩ rfl (by decide) fun k110 cs110 R110=>?_)
       have G110:Grow ρ107 43 (.slice (some ⟨k110,0,none⟩) 1 1) ([(⟨(t61:Int),shownB l set t61 ((chooseN picks ((50 + done))))⟩:Found)]:List Found) [(k110,Res.obj (.cells cs110.toArray 43 (0,0)))]:=Bs R110 rfl (by decide)
       refine Ca G110 fun ρ112 l112 r112=>?_
       replace rk:=Asa l112 rk
       replace hg:=Glob.mono l112 hg
       replace r2:=Arv l112 r2
       replace r22:=Asa l112 r22
       replace OG48_8:=Grow.mono l112 OG48_8
       replace r64:=Arv l112 r64
       replace r107:=Arv l112 r107
       replace r109:=Asa l112 r109
       refine Ae rfl (Fx (σ:=σ) (gr:=og48_8) (xs:=r) (ys:=([(⟨(t61:Int),shownB l set t61 ((chooseN picks ((50 + done))))⟩:Found)]:List Found)) Tryd.underlying41 Tryd.underlying41 (Ab Tryd.typeInfo43) rfl (Nat.le_of_ble_eq_true rfl) rfl rfl rfl rfl OG48_8 r112 (by simp only [List.length_append,List.length_cons,List.length_nil] at *; omega) fun v111 gr111 G111=>?_)
       refine l_A v111 rfl rfl ?_
       apply Ac
       apply k108
       refine w_q rfl rfl fun K113 k113=>?_
       refine Ak rfl (Ay FNode.f_not Tryd.underlying94 rfl rfl ty3 (by decide) rfl r64) fun v114 r114=>?_
       have ⟨g115a,g115b⟩:=At.rng r114
       refine Aa rfl (Bc ty3 rfl r114) ?_
       refine l_A (iV (n61)) rfl rfl ?_
       apply Ac
       apply k113
       refine Ai fun K116 k116=>?_
       refine w_q rfl rfl fun K117 k117=>?_
       refine Ak rfl (Ay Found.f_found Tryd.underlying43 rfl rfl ty4 (by decide) rfl r107) fun v118 r118=>?_
       refine Aa rfl (Nw ty4 rfl r118) ?_
       apply Ac
       apply k117
       refine As (t:=shownB l set t61 ((chooseN picks ((50 + done))))) rfl (fun b120=>?_) (fun b120=>?_)
       ·refine Ag rfl rfl ?_
        refine Ak rfl (Ay FNode.f_found Tryd.underlying94 rfl rfl ty3 (by decide) rfl r64) fun v121 r121=>?_
        have ⟨g122a,g122b⟩:=At.rng r121
        refine Aa rfl (Bc ty3 rfl r121) ?_
        refine l_A (iV (f61)) rfl rfl ?_
        apply Ac
        apply k116
        refine Ag rfl rfl ?_
        refine Aa rfl (Ah (v:=(iV ((done:Int)))) h48_15) ?_
        refine Aa rfl (Br (p:=(done:Int)) (q:=1) rfl rfl (z:=(((done + 1):Nat):Int)) (Bo (by first | rfl | omega | (push_cast; rfl)) (by omega) (by omega))) ?_
        refine l_A (iV ((((done + 1):Nat):Int))) rfl rfl ?_
        apply Ac
        refine ⟨_,?_,((r ++ ([(⟨(t61:Int),shownB l set t61 ((chooseN picks ((50 + done))))⟩:Found)]:List Found))),(f61),((done + 1)),v111,gr111,rfl,rfl,(Arz (Arz (Arz l48 l64) l107) l112),rfl,h48_1,h48_3,h48_7,h48_9,h48_10,rfl,rfl,rfl,(by have hF:=(Follow.step (pick:=chooseN picks (50 + done)) p48_0 okT (by omega) ha60 rfl).2; rw [if_pos b120] at hF; exact hF),(by simp only [List.length_append,List.length_cons,List.length_nil]; omega),(Ga (rfl) G111),trivial⟩
        omega
       refine Al ?_
       apply k116
       refine Ag rfl rfl ?_
       refine Aa rfl (Ah (v:=(iV ((done:Int)))) h48_15) ?_
       refine Aa rfl (Br (p:=(done:Int)) (q:=1) rfl rfl (z:=(((done + 1):Nat):Int)) (Bo (by first | rfl | omega | (push_cast; rfl)) (by omega) (by omega))) ?_
       refine l_A (iV ((((done + 1):Nat):Int))) rfl rfl ?_
       apply Ac
       refine ⟨_,?_,((r ++ ([(⟨(t61:Int),shownB l set t61 ((chooseN picks ((50 + done))))⟩:Found)]:List Found))),(n61),((done + 1)),v111,gr111,rfl,rfl,(Arz (Arz (Arz l48 l64) l107) l112),rfl,h48_1,h48_3,h48_7,h48_9,h48_10,rfl,rfl,rfl,(by have hF:=(Follow.step (pick:=chooseN picks (50 + done)) p48_0 okT (by omega) ha60 rfl).2; rw [if_neg (by rw [b120]; exact Bool.false_ne_true)] at hF; exact hF),(by simp only [List.length_append,List.length_cons,List.length_nil]; omega),(Ga (rfl) G111),trivial⟩
       omega
     ·refine Ct Ahd fun k123=>⟨Ary,?_⟩
      have hch124:=chooseN_lt (l:=picks) (k:=((50 + done)))
      refine Dj (i:=9) [o1,o1,o1,o1,o1,o1,o1,o1,o1,o1,o0,o0,o1,o0] rfl (by kernel_rfl) rfl rfl (Bn (vs:=[vk,(iV ((((50 + done):Nat):Int)))]) (v:=(iV ((((chooseN picks ((50 + done))):Nat):Int)))) (c_choose rk) Tryd.func30 rfl rfl ⟨rfl,rfl,trivial⟩ ⟨Ary,?_⟩)
      refine Dj (i:=10) [o1,o1,o1,o1,o1,o1,o1,o1,o1,o1,o1,o0,o1,o0] rfl (by kernel_rfl) rfl rfl (Bn (vs:=[v83,(iV ((set:Int))),(iV ((t61:Int))),(iV ((((chooseN picks ((50 + done))):Nat):Int)))]) (v:=(.bool (shownB l set t61 ((chooseN picks ((50 + done))))))) (c_shown r83 (by omega) (by omega) (by omega)) Tryd.func54 rfl rfl ⟨rfl,rfl,rfl,rfl,trivial⟩ ⟨Ary,?_⟩)
      have r125:Val ρ64 (.agg #[(iV ((t61:Int))),(.bool (shownB l set t61 ((chooseN picks ((50 + done))))))]) (⟨(t61:Int),shownB l set t61 ((chooseN picks ((50 + done))))⟩:Found):=Found.shut (x:=(⟨(t61:Int),shownB l set t61 ((chooseN picks ((50 + done))))⟩:Found)) (show I64 ((t61:Int)) from by constructor <;> omega)
      refine Bg (i:=11) [o1,o1,o1,o1,o1,o1,o1,o1,o1,o1,o1,o1,o1,o0] rfl (by kernel_rfl) rfl Ary rfl (Dm (ns:=[1,1]) (vs:=[(0,(iV ((t61:Int)))),(1,(.bool (shownB l set t61 ((chooseN picks ((50 + done)))))))]) (zc:=Alq) (cs:=[(iV ((t61:Int))),(.bool (shownB l set t61 ((chooseN picks ((50 + done))))))]) Tryd.underlying43 Ahd rfl ⟨⟨_,Ab Tryd.typeInfo3,rfl⟩,⟨_,Ab Tryd.typeInfo4,rfl⟩,trivial⟩ (EvB.map ⟨⟨rfl,rfl⟩,⟨rfl,rfl⟩,trivial⟩) ((Bd (cs:=[(iV ((t61:Int)))]) rfl rfl (Nat.le_of_ble_eq_true rfl)).trans ((Bd (cs:=[(.bool (shownB l set t61 ((chooseN picks ((50 + done))))))]) rfl rfl (Nat.le_of_ble_eq_true rfl)).trans rfl))) ?_
      refine Fi (i:=13) [o1,o1,o1,o1,o1,o1,o1,o1,o1,o1,o1,o1,o1,o1] rfl (by kernel_rfl) rfl rfl (Du (v:=(.agg #[(iV ((t61:Int))),(.bool (shownB l set t61 ((chooseN picks ((50 + done))))))])) (a:=(⟨(t61:Int),shownB l set t61 ((chooseN picks ((50 + done))))⟩:Found)) (c:=Alq) Aax rfl rfl r125 rfl ⟨Ary,?_⟩)
      refine Ec rfl ?_
      apply k80
      refine Ng (a:=(⟨(t61:Int),shownB l set t61 ((chooseN picks ((50 + done))))⟩:Found)) r125 fun ρ126 l126 r126=>?_
      replace rk:=Asa l126 rk
      replace hg:=Glob.mono l126 hg
      replace r2:=Arv l126 r2
      replace r22:=Asa l126 r22
      replace OG48_8:=Grow.mono l126 OG48_8
      replace r64:=Arv l126 r64
      refine w_q rfl rfl fun K127 k127=>?_
      refine Aa rfl (Ah (v:=ov48_8) h48_8) ?_
      refine Ak rfl (Ax Aax rfl r126) fun v128 r128=>?_
      refine Ae rfl (Bi (α:=Found) (xs:=[(⟨(t61:Int),shownB l set t61 ((chooseN picks ((50 + done))))⟩:Found)]) (vs:=[v128]) Tryd.underlying41 Aax Ahd rfl (by decide) (Dl (os:=[.tmp 138]) ⟨rfl,trivial⟩) ⟨r128,trivial⟩ rfl (by decide) fun k129 cs129 R129=>?_)
      have G129:Grow ρ126 43 (.slice (some ⟨k129,0,none⟩) 1 1) ([(⟨(t61:Int),shownB l set t61 ((chooseN picks ((50 + done))))⟩:Found)]:List Found) [(k129,Res.obj (.cells cs129.toArray 43 (0,0)))]:=Bs R129 rfl (by decide)
      refine Ca G129 fun ρ131 l131 r131=>?_
      replace rk:=Asa l131 rk
      replace hg:=Glob.mono l131 hg
      replace r2:=Arv l131 r2
      replace r22:=Asa l131 r22
      replace OG48_8:=Grow.mono l131 OG48_8
      replace r64:=Arv l131 r64
      replace r126:=Arv l131 r126
      replace r128:=Asa l131 r128
      refine Ae rfl (Fx (σ:=σ) (gr:=og48_8) (xs:=r) (ys:=([(⟨(t61:Int),shownB l set t61 ((chooseN picks ((50 + done))))⟩:Found)]:List Found)) Tryd.underlying41 Tryd.underlying41 (Ab Tryd.typeInfo43) rfl (Nat.le_of_ble_eq_true rfl) rfl rfl rfl rfl OG48_8 r131 (by simp only [List.length_append,List.length_cons,List.length_nil] at *; omega) fun v130 gr130 G130=>?_)
      refine l_A v130 rfl rfl ?_
      apply Ac
      apply k127
      refine w_q rfl rfl fun K132 k132=>?_
      refine Ak rfl (Ay FNode.f_not Tryd.underlying94 rfl rfl ty3 (by decide) rfl r64) fun v133 r133=>?_
      have ⟨g134a,g134b⟩:=At.rng r133
      refine Aa rfl (Bc ty3 rfl r133) ?_
      refine l_A (iV (n61)) rfl rfl ?_
      apply Ac
      apply k132
      refine Ai fun K135 k135=>?_
      refine w_q rfl rfl fun K136 k136=>?_
      refine Ak rfl (Ay Found.f_found Tryd.underlying43 rfl rfl ty4 (by decide) rfl r126) fun v137 r137=>?_
      refine Aa rfl (Nw ty4 rfl r137) ?_
      apply Ac
      apply k136
      refine As (t:=shownB l set t61 ((chooseN picks ((50 + done))))) rfl (fun b139=>?_) (fun b139=>?_)
      ·refine Ag rfl rfl ?_
       refine Ak rfl (Ay FNode.f_found Tryd.underlying94 rfl rfl ty3 (by decide) rfl r64) fun v140 r140=>?_
       have ⟨g141a,g141b⟩:=At.rng r140
       refine Aa rfl (Bc ty3 rfl r140) ?_
       refine l_A (iV (f61)) rfl rfl ?_
       apply Ac
       apply k135
       refine Ag rfl rfl ?_
       refine Aa rfl (Ah (v:=(iV ((done:Int)))) h48_15) ?_
       refine Aa rfl (Br (p:=(done:Int)) (q:=1) rfl rfl (z:=(((done + 1):Nat):Int)) (Bo (by first | rfl | omega | (push_cast; rfl)) (by omega) (by omega))) ?_
       refine l_A (iV ((((done + 1):Nat):Int))) rfl rfl ?_
       apply Ac
       refine ⟨_,?_,((r ++ ([(⟨(t61:Int),shownB l set t61 ((chooseN picks ((50 + done))))⟩:Found)]:List Found))),(f61),((done + 1)),v130,gr130,rfl,rfl,(Arz (Arz (Arz l48 l64) l126) l131),rfl,h48_1,h48_3,h48_7,h48_9,h48_10,rfl,rfl,rfl,(by have hF:=(Follow.step (pick:=chooseN picks (50 + done)) p48_0 okT (by omega) ha60 rfl).2; rw [if_pos b139] at hF; exact hF),(by simp only [List.length_append,List.length_cons,List.length_nil]; omega),(Ga (rfl) G130),trivial⟩
       omega
      refine Al ?_
      apply k135
      refine Ag rfl rfl ?_
      refine Aa rfl (Ah (v:=(iV ((done:Int)))) h48_15) ?_
      refine Aa rfl (Br (p:=(done:Int)) (q:=1) rfl rfl (z:=(((done + 1):Nat):Int)) (Bo (by first | rfl | omega | (push_cast; rfl)) (by omega) (by omega))) ?_
      refine l_A (iV ((((done + 1):Nat):Int))) rfl rfl ?_
      apply Ac
      refine ⟨_,?_,((r ++ ([(⟨(t61:Int),shownB l set t61 ((chooseN picks ((50 + done))))⟩:Found)]:List Found))),(n61),((done + 1)),v130,gr130,rfl,rfl,(Arz (Arz (Arz l48 l64) l126) l131),rfl,h48_1,h48_3,h48_7,h48_9,h48_10,rfl,rfl,rfl,(by have hF:=(Follow.step (pick:=chooseN picks (50 + done)) p48_0 okT (by omega) ha60 rfl).2; rw [if_neg (by rw [b139]; exact Bool.false_ne_true)] at hF; exact hF),(by simp only [List.length_append,List.length_cons,List.length_nil]; omega),(Ga (rfl) G130),trivial⟩
      omega
    have q57:=of_decide_eq_false b57
    refine Bx ?_
    apply k47
    refine w_q rfl rfl fun K142 k142=>?_
    refine Ak rfl (Ax Aaj h48_3 r2) fun v143 r143=>?_
    refine Aa rfl (Ah (v:=ov48_8) h48_8) ?_
    refine Ca OG48_8 fun ρ144 l144 r144=>?_
    replace rk:=Asa l144 rk
    replace hg:=Glob.mono l144 hg
    replace r2:=Arv l144 r2
    replace r22:=Asa l144 r22
    replace r143:=Asa l144 r143
    obtain ⟨hD1,hD2,hD3,hD4,hD5⟩:=p48_0.done_ (by omega) hS4
    have hDl:=Fe (l:=Ba l r)
    refine Ae rfl (Cm (vs:=[v143,ov48_8]) (c_refRemain r143 r144 ok hres) Tryd.func55 rfl rfl ⟨rfl,rfl,trivial⟩ fun v145 ρ145 σ145 hc145=>?_)
    obtain ⟨l145,s145,r145⟩:=hc145
    replace s145:=s145.symm; subst s145
    replace rk:=Asa l145 rk
    replace hg:=Glob.mono l145 hg
    replace r2:=Arv l145 r2
    replace r22:=Asa l145 r22
    replace r143:=Asa l145 r143
    replace r144:=Asa l145 r144
    refine l_A v145 rfl rfl ?_
    apply Ac
    apply k142
    refine Ai fun K146 k146=>?_
    refine w_q rfl rfl fun K147 k147=>?_
    refine Aa rfl (Ah (v:=(iV (a_))) h48_14) ?_
    refine Aa rfl (Dg (p:=a_) (q:=(-1)) rfl rfl) ?_
    refine l_M (.bool (a_ != (-1))) rfl rfl ?_
    refine Aa (Ar rfl rfl rfl (by rw [hD1]; rfl)) (Ah (v:=(iV ((done:Int)))) h48_15) ?_
    refine Aa (Ar rfl rfl rfl (by rw [hD1]; rfl)) (Ah (v:=(iV (Xx l rs))) h48_10) ?_
    refine Aa (Ar rfl rfl rfl (by rw [hD1]; rfl)) (Gk (p:=(done:Int)) (q:=Xx l rs) rfl rfl) ?_
    refine Aa rfl (Bm rfl (by rw [hD1]; rfl) (v:=(.bool (decide ((done:Int) > Xx l rs)))) rfl) ?_
    refine l_M (.bool (decide ((done:Int) > Xx l rs))) rfl rfl ?_
    refine l_M v145 (Ar rfl rfl rfl (decide_eq_false (by omega))) rfl ?_
    have g148:=Val.len r145
    refine Aa (Ar rfl rfl rfl (decide_eq_false (by omega))) (Ce (el:=3) Tryd.underlying30 rfl r145) ?_
    refine Aa (Ar rfl rfl rfl (decide_eq_false (by omega))) (Ek (p:=(((Bw (Ba l r)).length:Nat):Int)) (q:=0) rfl rfl) ?_
    refine Aa rfl (Bm rfl (decide_eq_false (by omega)) (v:=(.bool ((((Bw (Ba l r)).length:Nat):Int) == 0))) rfl) ?_
    refine l_M (.bool ((((Bw (Ba l r)).length:Nat):Int) == 0)) rfl rfl ?_
    refine l_M v145 (Ar rfl rfl rfl (by rw [hDl]; exact beq_false_of_ne (by omega))) rfl ?_
    refine Ae (Ar rfl rfl rfl (by rw [hDl]; exact beq_false_of_ne (by omega))) (Bn (vs:=[v145]) (v:=(.bool (Dz (Bw (Ba l r))))) (c_Settled r145) Tryd.func56 rfl rfl ⟨rfl,trivial⟩ ?_)
    refine Aa (Ar rfl rfl rfl (by rw [hDl]; exact beq_false_of_ne (by omega))) (Ix (k:=Dz (Bw (Ba l r))) rfl) ?_
    refine Aa rfl (Bm rfl (by rw [hDl]; exact beq_false_of_ne (by omega)) (v:=(.bool (!(Dz (Bw (Ba l r)))))) rfl) ?_
    apply Ac
    apply k147
    refine Cg rfl (not_t hD4) ?_
    refine Al ?_
    apply k146
    refine w_q rfl rfl fun K149 k149=>?_
    refine l_M v145 rfl rfl ?_
    obtain ⟨a151,ha151⟩:=Ed (xs:=Bw (Ba l r)) (i:=0) (by omega)
    obtain ⟨b152,hb152,hz152⟩:=Uc ha151
    subst hz152
    refine Ak rfl (Ci 0 Tryd.underlying30 ty3 rfl r145 (q:=0) rfl rfl ha151) fun v150 r150=>?_
    have ⟨g153a,g153b⟩:=At.rng r150
    refine Aa rfl (Bc ty3 rfl r150) ?_
    refine Aa rfl (Ek (p:=(b152:Int)) (q:=0) rfl rfl) ?_
    refine Aa rfl (Ah (v:=(iV ((set:Int)))) h48_7) ?_
    refine Aa rfl (Ek (p:=(set:Int)) (q:=0) rfl rfl) ?_
    refine Aa rfl (y_eqlb Tryd.underlying4 (p:=(b152:Int) == 0) (q:=(set:Int) == 0) rfl rfl) ?_
    refine l_M (.bool (((b152:Int) == 0) == ((set:Int) == 0))) rfl rfl ?_
    refine Cn (((b152:Int) == 0) == ((set:Int) == 0)) (fun b154=>?_) (fun b154=>?_)
    ·have q154:=Jo b154
     refine Ae (Ar rfl rfl rfl b154) (Bn (vs:=[]) (v:=(.bool (true))) (calls_up (c_tells hg hnr)) Tryd.func17 rfl rfl trivial ?_)
     refine Aa rfl (Bt rfl b154 (v:=(.bool (true))) rfl) ?_
     refine l_A (.bool (true)) rfl rfl ?_
     apply Ac
     apply k149
     refine Aj (Arw (Arz (Arz (Arz (Arz (Arz l2 l17) l22) l48) l144) l145)) ?_
     refine Aq ?_
     refine hret _ _ _ ?_
     refine ⟨rfl,rfl,Eq.trans (b:=(.bool (true))) rfl ?_⟩
     rfl
    have q154:=La b154
    refine Ap (Bl rfl rfl rfl b154) ?_
    refine Aa rfl (Bm rfl b154 (v:=(.bool (false))) rfl) ?_
    refine l_A (.bool (false)) rfl rfl ?_
    apply Ac
    apply k149
    refine Aj (Arw (Arz (Arz (Arz (Arz (Arz l2 l17) l22) l48) l144) l145)) ?_
    refine Aq ?_
    refine hret _ _ _ ?_
    refine ⟨rfl,rfl,Eq.trans (b:=(.bool (false))) rfl ?_⟩
    exfalso; have h9:=hD5 _ hb152; have h8:=b154
    by_cases hz:set = 0
    ·rw [hz,h9.2 hz] at h8; simp at h8
    ·have h7:¬ b152 = 0:=fun e=>hz (h9.1 e)
     rw [show ((b152:Int) == 0) = false from beq_false_of_ne (by omega),show ((set:Int) == 0) = false from beq_false_of_ne (by omega)] at h8; simp at h8
   have q53:=of_decide_eq_false b53
   refine Ap (Bl rfl rfl rfl b53) ?_
   refine Ap (Bl rfl rfl rfl b53) ?_
   refine Ap (Bl rfl rfl rfl b53) ?_
   refine Ap (Bl rfl rfl rfl b53) ?_
   refine Ap (Bl rfl rfl rfl b53) ?_
   refine Aa rfl (Bm rfl b53 (v:=(.bool (false))) rfl) ?_
   apply Ac
   apply k50
   refine Cg rfl rfl ?_
   refine Bx ?_
   apply k47
   refine w_q rfl rfl fun K155 k155=>?_
   refine Ak rfl (Ax Aaj h48_3 r2) fun v156 r156=>?_
   refine Aa rfl (Ah (v:=ov48_8) h48_8) ?_
   refine Ca OG48_8 fun ρ157 l157 r157=>?_
   replace rk:=Asa l157 rk
   replace hg:=Glob.mono l157 hg
   replace r2:=Arv l157 r2
   replace r22:=Asa l157 r22
   replace r156:=Asa l157 r156
   obtain ⟨hD1,hD2,hD3,hD4,hD5⟩:=p48_0.done_ (by omega) hS4
   have hDl:=Fe (l:=Ba l r)
   refine Ae rfl (Cm (vs:=[v156,ov48_8]) (c_refRemain r156 r157 ok hres) Tryd.func55 rfl rfl ⟨rfl,rfl,trivial⟩ fun v158 ρ158 σ158 hc158=>?_)
   obtain ⟨l158,s158,r158⟩:=hc158
   replace s158:=s158.symm; subst s158
   replace rk:=Asa l158 rk
   replace hg:=Glob.mono l158 hg
   replace r2:=Arv l158 r2
   replace r22:=Asa l158 r22
   replace r156:=Asa l158 r156
   replace r157:=Asa l158 r157
   refine l_A v158 rfl rfl ?_
   apply Ac
   apply k155
   refine Ai fun K159 k159=>?_
   refine w_q rfl rfl fun K160 k160=>?_
   refine Aa rfl (Ah (v:=(iV (a_))) h48_14) ?_
   refine Aa rfl (Dg (p:=a_) (q:=(-1)) rfl rfl) ?_
   refine l_M (.bool (a_ != (-1))) rfl rfl ?_
   refine Aa (Ar rfl rfl rfl (by rw [hD1]; rfl)) (Ah (v:=(iV ((done:Int)))) h48_15) ?_
   refine Aa (Ar rfl rfl rfl (by rw [hD1]; rfl)) (Ah (v:=(iV (Xx l rs))) h48_10) ?_
   refine Aa (Ar rfl rfl rfl (by rw [hD1]; rfl)) (Gk (p:=(done:Int)) (q:=Xx l rs) rfl rfl) ?_
   refine Aa rfl (Bm rfl (by rw [hD1]; rfl) (v:=(.bool (decide ((done:Int) > Xx l rs)))) rfl) ?_
   refine l_M (.bool (decide ((done:Int) > Xx l rs))) rfl rfl ?_
   refine l_M v158 (Ar rfl rfl rfl (decide_eq_false (by omega))) rfl ?_
   have g161:=Val.len r158
   refine Aa (Ar rfl rfl rfl (decide_eq_false (by omega))) (Ce (el:=3) Tryd.underlying30 rfl r158) ?_
   refine Aa (Ar rfl rfl rfl (decide_eq_false (by omega))) (Ek (p:=(((Bw (Ba l r)).length:Nat):Int)) (q:=0) rfl rfl) ?_
   refine Aa rfl (Bm rfl (decide_eq_false (by omega)) (v:=(.bool ((((Bw (Ba l r)).length:Nat):Int) == 0))) rfl) ?_
   refine l_M (.bool ((((Bw (Ba l r)).length:Nat):Int) == 0)) rfl rfl ?_
   refine l_M v158 (Ar rfl rfl rfl (by rw [hDl]; exact beq_false_of_ne (by omega))) rfl ?_
   refine Ae (Ar rfl rfl rfl (by rw [hDl]; exact beq_false_of_ne (by omega))) (Bn (vs:=[v158]) (v:=(.bool (Dz (Bw (Ba l r))))) (c_Settled r158) Tryd.func56 rfl rfl ⟨rfl,trivial⟩ ?_)
   refine Aa (Ar rfl rfl rfl (by rw [hDl]; exact beq_false_of_ne (by omega))) (Ix (k:=Dz (Bw (Ba l r))) rfl) ?_
   refine Aa rfl (Bm rfl (by rw [hDl]; exact beq_false_of_ne (by omega)) (v:=(.bool (!(Dz (Bw (Ba l r)))))) rfl) ?_
   apply Ac
   apply k160
   refine Cg rfl (not_t hD4) ?_
   refine Al ?_
   apply k159
   refine w_q rfl rfl fun K162 k162=>?_
   refine l_M v158 rfl rfl ?_
   obtain ⟨a164,ha164⟩:=Ed (xs:=Bw (Ba l r)) (i:=0) (by omega)
   obtain ⟨b165,hb165,hz165⟩:=Uc ha164
   subst hz165
   refine Ak rfl (Ci 0 Tryd.underlying30 ty3 rfl r158 (q:=0) rfl rfl ha164) fun v163 r163=>?_
   have ⟨g166a,g166b⟩:=At.rng r163
   refine Aa rfl (Bc ty3 rfl r163) ?_
   refine Aa rfl (Ek (p:=(b165:Int)) (q:=0) rfl rfl) ?_
   refine Aa rfl (Ah (v:=(iV ((set:Int)))) h48_7) ?_
   refine Aa rfl (Ek (p:=(set:Int)) (q:=0) rfl rfl) ?_
   refine Aa rfl (y_eqlb Tryd.underlying4 (p:=(b165:Int) == 0) (q:=(set:Int) == 0) rfl rfl) ?_
   refine l_M (.bool (((b165:Int) == 0) == ((set:Int) == 0))) rfl rfl ?_
   refine Cn (((b165:Int) == 0) == ((set:Int) == 0)) (fun b167=>?_) (fun b167=>?_)
   ·have q167:=Jo b167
    refine Ae (Ar rfl rfl rfl b167) (Bn (vs:=[]) (v:=(.bool (true))) (calls_up (c_tells hg hnr)) Tryd.func17 rfl rfl trivial ?_)
    refine Aa rfl (Bt rfl b167 (v:=(.bool (true))) rfl) ?_
    refine l_A (.bool (true)) rfl rfl ?_
    apply Ac
    apply k162
    refine Aj (Arw (Arz (Arz (Arz (Arz (Arz l2 l17) l22) l48) l157) l158)) ?_
    refine Aq ?_
    refine hret _ _ _ ?_
    refine ⟨rfl,rfl,Eq.trans (b:=(.bool (true))) rfl ?_⟩
    rfl
   have q167:=La b167
   refine Ap (Bl rfl rfl rfl b167) ?_
   refine Aa rfl (Bm rfl b167 (v:=(.bool (false))) rfl) ?_
   refine l_A (.bool (false)) rfl rfl ?_
   apply Ac
   apply k162
   refine Aj (Arw (Arz (Arz (Arz (Arz (Arz l2 l17) l22) l48) l157) l158)) ?_
   refine Aq ?_
   refine hret _ _ _ ?_
   refine ⟨rfl,rfl,Eq.trans (b:=(.bool (false))) rfl ?_⟩
   exfalso; have h9:=hD5 _ hb165; have h8:=b167
   by_cases hz:set = 0
   ·rw [hz,h9.2 hz] at h8; simp at h8
   ·have h7:¬ b165 = 0:=fun e=>hz (h9.1 e)
    rw [show ((b165:Int) == 0) = false from beq_false_of_ne (by omega),show ((set:Int) == 0) = false from beq_false_of_ne (by omega)] at h8; simp at h8
  have q51:=of_decide_eq_false b51
  refine Ap (Bl rfl rfl rfl b51) ?_
  refine Ap (Bl rfl rfl rfl b51) ?_
  refine Ap (Bl rfl rfl rfl b51) ?_
  refine Ap (Bl rfl rfl rfl b51) ?_
  refine Aa rfl (Bm rfl b51 (v:=(.bool (false))) rfl) ?_
  refine l_M (.bool (false)) rfl rfl ?_
  refine Ap (Bl rfl rfl rfl rfl) ?_
  refine Ap (Bl rfl rfl rfl rfl) ?_
  refine Ap (Bl rfl rfl rfl rfl) ?_
  refine Ap (Bl rfl rfl rfl rfl) ?_
  refine Ap (Bl rfl rfl rfl rfl) ?_
  refine Aa rfl (Bm rfl rfl (v:=(.bool (false))) rfl) ?_
  apply Ac
  apply k50
  refine Cg rfl rfl ?_
  refine Bx ?_
  apply k47
  refine w_q rfl rfl fun K168 k168=>?_
  refine Ak rfl (Ax Aaj h48_3 r2) fun v169 r169=>?_
  refine Aa rfl (Ah (v:=ov48_8) h48_8) ?_
  refine Ca OG48_8 fun ρ170 l170 r170=>?_
  replace rk:=Asa l170 rk
  replace hg:=Glob.mono l170 hg
  replace r2:=Arv l170 r2
  replace r22:=Asa l170 r22
  replace r169:=Asa l170 r169
  obtain ⟨hD1,hD2,hD3,hD4,hD5⟩:=p48_0.done_ (by omega) hS4
  have hDl:=Fe (l:=Ba l r)
  refine Ae rfl (Cm (vs:=[v169,ov48_8]) (c_refRemain r169 r170 ok hres) Tryd.func55 rfl rfl ⟨rfl,rfl,trivial⟩ fun v171 ρ171 σ171 hc171=>?_)
  obtain ⟨l171,s171,r171⟩:=hc171
  replace s171:=s171.symm; subst s171
  replace rk:=Asa l171 rk
  replace hg:=Glob.mono l171 hg
  replace r2:=Arv l171 r2
  replace r22:=Asa l171 r22
  replace r169:=Asa l171 r169
  replace r170:=Asa l171 r170
  refine l_A v171 rfl rfl ?_
  apply Ac
  apply k168
  refine Ai fun K172 k172=>?_
  refine w_q rfl rfl fun K173 k173=>?_
  refine Aa rfl (Ah (v:=(iV (a_))) h48_14) ?_
  refine Aa rfl (Dg (p:=a_) (q:=(-1)) rfl rfl) ?_
  refine l_M (.bool (a_ != (-1))) rfl rfl ?_
  refine Aa (Ar rfl rfl rfl (by rw [hD1]; rfl)) (Ah (v:=(iV ((done:Int)))) h48_15) ?_
  refine Aa (Ar rfl rfl rfl (by rw [hD1]; rfl)) (Ah (v:=(iV (Xx l rs))) h48_10) ?_
  refine Aa (Ar rfl rfl rfl (by rw [hD1]; rfl)) (Gk (p:=(done:Int)) (q:=Xx l rs) rfl rfl) ?_
  refine Aa rfl (Bm rfl (by rw [hD1]; rfl) (v:=(.bool (decide ((done:Int) > Xx l rs)))) rfl) ?_
  refine l_M (.bool (decide ((done:Int) > Xx l rs))) rfl rfl ?_
  refine l_M v171 (Ar rfl rfl rfl (decide_eq_false (by omega))) rfl ?_
  have g174:=Val.len r171
  refine Aa (Ar rfl rfl rfl (decide_eq_false (by omega))) (Ce (el:=3) Tryd.underlying30 rfl r171) ?_
  refine Aa (Ar rfl rfl rfl (decide_eq_false (by omega))) (Ek (p:=(((Bw (Ba l r)).length:Nat):Int)) (q:=0) rfl rfl) ?_
  refine Aa rfl (Bm rfl (decide_eq_false (by omega)) (v:=(.bool ((((Bw (Ba l r)).length:Nat):Int) == 0))) rfl) ?_
  refine l_M (.bool ((((Bw (Ba l r)).length:Nat):Int) == 0)) rfl rfl ?_
  refine l_M v171 (Ar rfl rfl rfl (by rw [hDl]; exact beq_false_of_ne (by omega))) rfl ?_
  refine Ae (Ar rfl rfl rfl (by rw [hDl]; exact beq_false_of_ne (by omega))) (Bn (vs:=[v171]) (v:=(.bool (Dz (Bw (Ba l r))))) (c_Settled r171) Tryd.func56 rfl rfl ⟨rfl,trivial⟩ ?_)
  refine Aa (Ar rfl rfl rfl (by rw [hDl]; exact beq_false_of_ne (by omega))) (Ix (k:=Dz (Bw (Ba l r))) rfl) ?_
  refine Aa rfl (Bm rfl (by rw [hDl]; exact beq_false_of_ne (by omega)) (v:=(.bool (!(Dz (Bw (Ba l r)))))) rfl) ?_
  apply Ac
  apply k173
  refine Cg rfl (not_t hD4) ?_
  refine Al ?_
  apply k172
  refine w_q rfl rfl fun K175 k175=>?_
  refine l_M v171 rfl rfl ?_
  obtain ⟨a177,ha177⟩:=Ed (xs:=Bw (Ba l r)) (i:=0) (by omega)
  obtain ⟨b178,hb178,hz178⟩:=Uc ha177
  subst hz178
  refine Ak rfl (Ci 0 Tryd.underlying30 ty3 rfl r171 (q:=0) rfl rfl ha177) fun v176 r176=>?_
  have ⟨g179a,g179b⟩:=At.rng r176
  refine Aa rfl (Bc ty3 rfl r176) ?_
  refine Aa rfl (Ek (p:=(b178:Int)) (q:=0) rfl rfl) ?_
  refine Aa rfl (Ah (v:=(iV ((set:Int)))) h48_7) ?_
  refine Aa rfl (Ek (p:=(set:Int)) (q:=0) rfl rfl) ?_
  refine Aa rfl (y_eqlb Tryd.underlying4 (p:=(b178:Int) == 0) (q:=(set:Int) == 0) rfl rfl) ?_
  refine l_M (.bool (((b178:Int) == 0) == ((set:Int) == 0))) rfl rfl ?_
  refine Cn (((b178:Int) == 0) == ((set:Int) == 0)) (fun b180=>?_) (fun b180=>?_)
  ·have q180:=Jo b180
   refine Ae (Ar rfl rfl rfl b180) (Bn (vs:=[]) (v:=(.bool (true))) (calls_up (c_tells hg hnr)) Tryd.func17 rfl rfl trivial ?_)
   refine Aa rfl (Bt rfl b180 (v:=(.bool (true))) rfl) ?_
   refine l_A (.bool (true)) rfl rfl ?_
   apply Ac
   apply k175
   refine Aj (Arw (Arz (Arz (Arz (Arz (Arz l2 l17) l22) l48) l170) l171)) ?_
   refine Aq ?_
   refine hret _ _ _ ?_
   refine ⟨rfl,rfl,Eq.trans (b:=(.bool (true))) rfl ?_⟩
   rfl
  have q180:=La b180
  refine Ap (Bl rfl rfl rfl b180) ?_
  refine Aa rfl (Bm rfl b180 (v:=(.bool (false))) rfl) ?_
  refine l_A (.bool (false)) rfl rfl ?_
  apply Ac
  apply k175
  refine Aj (Arw (Arz (Arz (Arz (Arz (Arz l2 l17) l22) l48) l170) l171)) ?_
  refine Aq ?_
  refine hret _ _ _ ?_
  refine ⟨rfl,rfl,Eq.trans (b:=(.bool (false))) rfl ?_⟩
  exfalso; have h9:=hD5 _ hb178; have h8:=b180
  by_cases hz:set = 0
  ·rw [hz,h9.2 hz] at h8; simp at h8
  ·have h7:¬ b178 = 0:=fun e=>hz (h9.1 e)
   rw [show ((b178:Int) == 0) = false from beq_false_of_ne (by omega),show ((set:Int) == 0) = false from beq_false_of_ne (by omega)] at h8; simp at h8
 have q46:=La b46
 refine Al ?_
 apply k43
 refine Ai fun K181 k181=>?_
 refine Ao ?_
 have hF0:Follow l set (Za l rs) (Xx l rs) rs 0 0:=hS8 _ (by rw [if_neg (by omega)])
 refine Cc (fun mm ee dd ρ' σ'=>∃ (r:List Found) (a_:Int) (done:Nat) (ov182_8:Value) (og182_8:Own),(l.tests.length + 1 - done) = mm∧[] = dd∧Ro.le ρ22 ρ'∧(og182_8 ++ σ) = σ'∧ee 1 = vk∧ee 3 = (.pointer (some ⟨k2,0,none⟩))∧ee 7 = (iV ((set:Int)))∧ee 9 = vt21∧ee 10 = (iV (Xx l rs))∧ee 8 = ov182_8∧ee 14 = (iV (a_))∧ee 15 = (iV ((done:Int)))∧(Follow l set (Za l rs) (Xx l rs) r a_ done)∧(r.length ≤ 8 + done)∧Grow ρ' 43 ov182_8 r og182_8∧True) (m:=_) ⟨rs,0,0,w17,gr17,rfl,rfl,Ary,rfl,rfl,rfl,rfl,rfl,rfl,rfl,rfl,rfl,hF0,(by omega),G17,trivial⟩ ?_
 rintro m182 e182 _ ρ182 _ ⟨r,a_,done,ov182_8,og182_8,rfl,rfl,l182,rfl,h182_1,h182_3,h182_7,h182_9,h182_10,h182_8,h182_14,h182_15,p182_0,p182_1,OG182_8,_⟩
 replace rk:=Asa l182 rk
 replace hg:=Glob.mono l182 hg
 replace r2:=Arv l182 r2
 replace r22:=Asa l182 r22
 have hat:=p182_0.at_
 have hres:=p182_0.res
 refine Ai fun K183 k183=>?_
 refine w_q rfl rfl fun K184 k184=>?_
 refine Aa rfl (Ah (v:=(iV (a_))) h182_14) ?_
 refine Aa rfl (Uv (p:=a_) (q:=0) rfl rfl) ?_
 refine l_M (.bool (decide (a_ ≥ 0))) rfl rfl ?_
 refine Cn (decide (a_ ≥ 0)) (fun b185=>?_) (fun b185=>?_)
 ·have q185:=of_decide_eq_true b185
  refine Aa (Ar rfl rfl rfl b185) (Ah (v:=(iV (a_))) h182_14) ?_
  refine Aa (Ar rfl rfl rfl b185) (Ah (v:=vt21) h182_9) ?_
  have g186:=Val.len r22
  refine Aa (Ar rfl rfl rfl b185) (Ce (el:=94) Tryd.underlying49 rfl r22) ?_
  refine Aa (Ar rfl rfl rfl b185) (Da (p:=a_) (q:=(((Za l rs).length:Nat):Int)) rfl rfl) ?_
  refine Aa rfl (Bt rfl b185 (v:=(.bool (decide (a_ < (((Za l rs).length:Nat):Int))))) rfl) ?_
  refine l_M (.bool (decide (a_ < (((Za l rs).length:Nat):Int)))) rfl rfl ?_
  refine Cn (decide (a_ < (((Za l rs).length:Nat):Int))) (fun b187=>?_) (fun b187=>?_)
  ·have q187:=of_decide_eq_true b187
   refine Aa (Ar rfl rfl rfl b187) (Ah (v:=(iV ((done:Int)))) h182_15) ?_
   refine Ak (Ar rfl rfl rfl b187) (Ay Lab.f_tests Tryd.underlying40 rfl rfl Vd (by decide) h182_3 r2) fun v188 r188=>?_
   refine Ak (Ar rfl rfl rfl b187) (Ax Vd rfl r188) fun v189 r189=>?_
   have g190:=Val.len r189
   refine Aa (Ar rfl rfl rfl b187) (Ce (el:=108) Tryd.underlying38 rfl r189) ?_
   refine Aa (Ar rfl rfl rfl b187) (Tx (p:=(done:Int)) (q:=((l.tests.length:Nat):Int)) rfl rfl) ?_
   refine Aa rfl (Bt rfl b187 (v:=(.bool (decide ((done:Int) ≤ ((l.tests.length:Nat):Int))))) rfl) ?_
   apply Ac
   apply k184
   refine As (t:=decide ((done:Int) ≤ ((l.tests.length:Nat):Int))) rfl (fun b191=>?_) (fun b191=>?_)
   ·have q191:=of_decide_eq_true b191
    refine Al ?_
    apply k183
    refine Ao ?_
    refine w_q rfl rfl fun K192 k192=>?_
    refine Aa rfl (Ah (v:=vt21) h182_9) ?_
    refine Aa rfl (Ah (v:=(iV (a_))) h182_14) ?_
    obtain ⟨a194,ha194⟩:=Ed (xs:=Za l rs) (i:=(a_).toNat) (by omega)
    have ht_a194:=okT.test _ _ ha194
    obtain ⟨t195,f195,n195,rfl⟩:∃ (t:Nat) (f n:Int),a194 = ⟨(t:Int),f,n⟩:=⟨a194.test.toNat,a194.found,a194.not,by obtain ⟨x,y,z⟩:=a194; simp only [FNode.mk.injEq,and_true]; exact (Int.toNat_of_nonneg ht_a194.1).symm⟩
    have hT195a:=ht_a194.1; have hT195b:(t195:Int) < (l.tests.length:Int):=ht_a194.2
    have hFf195:f195 = -1∨(_∧f195 < _):=okT.found _ _ ha194; have hFn195:n195 = -1∨(_∧n195 < _):=okT.not _ _ ha194
    refine Ak rfl (Ci ((a_).toNat) Tryd.underlying49 ty94 rfl r22 (q:=a_) rfl (by omega) ha194) fun v193 r193=>?_
    refine Ak rfl (Ax ty94 rfl r193) fun v196 r196=>?_
    refine Ae rfl (Ct Aes fun k197=>?_)
    refine Cx rfl (Du (v:=v196) (a:=(⟨(t195:Int),f195,n195⟩:FNode)) (c:=Aly) ty94 rfl rfl r196 rfl ?_)
    refine Bb (a:=(⟨(t195:Int),f195,n195⟩:FNode)) r196 fun ρ198 l198 r198=>?_
    replace rk:=Asa l198 rk
    replace hg:=Glob.mono l198 hg
    replace r2:=Arv l198 r2
    replace r22:=Asa l198 r22
    replace OG182_8:=Grow.mono l198 OG182_8
    replace r193:=Arv l198 r193
    replace r196:=Asa l198 r196
    apply Ac
    apply k192
    refine Ai fun K199 k199=>?_
    refine w_q rfl rfl fun K200 k200=>?_
    refine Ak rfl (Ay FNode.f_test Tryd.underlying94 rfl rfl ty3 (by decide) rfl r198) fun v201 r201=>?_
    have ⟨g202a,g202b⟩:=At.rng r201
    refine Aa rfl (Bc ty3 rfl r201) ?_
    refine Aa rfl (Da (p:=(t195:Int)) (q:=0) rfl rfl) ?_
    refine l_M (.bool (decide ((t195:Int) < 0))) rfl rfl ?_
    refine Cn (decide ((t195:Int) < 0)) (fun b203=>?_) (fun b203=>?_)
    ·have q203:=of_decide_eq_true b203
     refine Ap (Bl rfl rfl rfl b203) ?_
     refine Ap (Bl rfl rfl rfl b203) ?_
     refine Ap (Bl rfl rfl rfl b203) ?_
     refine Ap (Bl rfl rfl rfl b203) ?_
     refine Ap (Bl rfl rfl rfl b203) ?_
     refine Ap (Bl rfl rfl rfl b203) ?_
     refine Aa rfl (Bt rfl b203 (v:=(.bool (true))) rfl) ?_
     apply Ac
     apply k200
     refine Co rfl rfl ?_
     refine w_q rfl rfl fun K204 k204=>?_
     refine l_A (.bool (false)) rfl rfl ?_
     apply Ac
     apply k204
     refine Gy OG182_8 fun ρ205 l205 r205=>?_
     replace hg:=Glob.mono l205 hg
     refine Aj (Arw (Arz (Arz (Arz (Arz (Arz l2 l17) l22) l182) l198) l205)) ?_
     refine Aq ?_
     refine hret _ _ _ ?_
     refine ⟨rfl,rfl,Eq.trans (b:=(.bool (false))) rfl ?_⟩
     exfalso; omega
    have q203:=of_decide_eq_false b203
    refine Ak (Ar rfl rfl rfl b203) (Ay FNode.f_test Tryd.underlying94 rfl rfl ty3 (by decide) rfl r198) fun v206 r206=>?_
    have ⟨g207a,g207b⟩:=At.rng r206
    refine Aa (Ar rfl rfl rfl b203) (Bc ty3 rfl r206) ?_
    refine Ak (Ar rfl rfl rfl b203) (Ay Lab.f_tests Tryd.underlying40 rfl rfl Vd (by decide) h182_3 r2) fun v208 r208=>?_
    refine Ak (Ar rfl rfl rfl b203) (Ax Vd rfl r208) fun v209 r209=>?_
    have g210:=Val.len r209
    refine Aa (Ar rfl rfl rfl b203) (Ce (el:=108) Tryd.underlying38 rfl r209) ?_
    refine Aa (Ar rfl rfl rfl b203) (Uv (p:=(t195:Int)) (q:=((l.tests.length:Nat):Int)) rfl rfl) ?_
    refine Aa rfl (Bm rfl b203 (v:=(.bool (decide ((t195:Int) ≥ ((l.tests.length:Nat):Int))))) rfl) ?_
    apply Ac
    apply k200
    refine As (t:=decide ((t195:Int) ≥ ((l.tests.length:Nat):Int))) rfl (fun b211=>?_) (fun b211=>?_)
    ·have q211:=of_decide_eq_true b211
     refine w_q rfl rfl fun K212 k212=>?_
     refine l_A (.bool (false)) rfl rfl ?_
     apply Ac
     apply k212
     refine Gy OG182_8 fun ρ213 l213 r213=>?_
     replace hg:=Glob.mono l213 hg
     refine Aj (Arw (Arz (Arz (Arz (Arz (Arz l2 l17) l22) l182) l198) l213)) ?_
     refine Aq ?_
     refine hret _ _ _ ?_
     refine ⟨rfl,rfl,Eq.trans (b:=(.bool (false))) rfl ?_⟩
     exfalso; omega
    have q211:=of_decide_eq_false b211
    refine Al ?_
    apply k199
    refine Ai fun K214 k214=>?_
    refine Dc [0,1,2,3,4,5,6,7,8,9,10,11,12,13] (by kernel_rfl) rfl rfl ?_
    refine Cd (i:=0) [o1,o0,o0,o0,o0,o0,o0,o0,o0,o0,o0,o0,o0,o0] rfl (by kernel_rfl) rfl Ary rfl (Ay FNode.f_test Tryd.underlying94 rfl rfl ty3 (by decide) rfl r198) fun v215 r215=>?_
    have ⟨g216a,g216b⟩:=At.rng r215
    refine Be (i:=1) [o1,o1,o0,o0,o0,o0,o0,o0,o0,o0,o0,o0,o0,o0] rfl (by kernel_rfl) rfl Ary rfl (Bc ty3 rfl r215) ?_
    refine Cd (i:=2) [o1,o1,o1,o0,o0,o0,o0,o0,o0,o0,o0,o0,o0,o0] rfl (by kernel_rfl) rfl Ary rfl (Ax Aaj h182_3 r2) fun v217 r217=>?_
    refine Be (i:=3) [o1,o1,o1,o1,o0,o0,o0,o0,o0,o0,o0,o0,o0,o0] rfl (by kernel_rfl) rfl Ary rfl (Ah (v:=(iV ((set:Int)))) h182_7) ?_
    refine Cd (i:=4) [o1,o1,o1,o1,o1,o0,o0,o0,o0,o0,o0,o0,o0,o0] rfl (by kernel_rfl) rfl Ary rfl (Ay FNode.f_test Tryd.underlying94 rfl rfl ty3 (by decide) rfl r198) fun v218 r218=>?_
    have ⟨g219a,g219b⟩:=At.rng r218
    refine Be (i:=5) [o1,o1,o1,o1,o1,o1,o0,o0,o0,o0,o0,o0,o0,o0] rfl (by kernel_rfl) rfl Ary rfl (Bc ty3 rfl r218) ?_
    refine Be (i:=6) [o1,o1,o1,o1,o1,o1,o1,o0,o0,o0,o0,o0,o0,o0] rfl (by kernel_rfl) rfl Ary rfl (Ah (v:=vk) h182_1) ?_
    refine Be (i:=7) [o1,o1,o1,o1,o1,o1,o1,o1,o0,o0,o0,o0,o0,o0] rfl (by kernel_rfl) rfl Ary rfl (Ah (v:=(iV ((done:Int)))) h182_15) ?_
    refine Be (i:=8) [o1,o1,o1,o1,o1,o1,o1,o1,o1,o0,o0,o0,o0,o0] rfl (by kernel_rfl) rfl Ary rfl (Br (p:=50) (q:=(done:Int)) rfl rfl (z:=(((50 + done):Nat):Int)) (Bo (by first | rfl | omega | (push_cast; rfl)) (by omega) (by omega))) ?_
    refine Acr (i:=9) (j:=12) [o1,o1,o1,o1,o1,o1,o1,o1,o1,o1,o0,o0,o0,o0] [o1,o1,o1,o1,o1,o1,o1,o1,o1,o0,o0,o0,o1,o0] rfl rfl (by kernel_rfl) rfl rfl rfl rfl ?_ ?_
    ·have hch220:=chooseN_lt (l:=picks) (k:=((50 + done)))
     refine Bn (vs:=[vk,(iV ((((50 + done):Nat):Int)))]) (v:=(iV ((((chooseN picks ((50 + done))):Nat):Int)))) (c_choose rk) Tryd.func30 rfl rfl ⟨rfl,rfl,trivial⟩ ⟨Ary,?_⟩
     refine Acr (i:=10) (j:=12) [o1,o1,o1,o1,o1,o1,o1,o1,o1,o1,o1,o0,o0,o0] [o1,o1,o1,o1,o1,o1,o1,o1,o1,o1,o0,o0,o1,o0] rfl rfl (by kernel_rfl) rfl rfl rfl rfl ?_ ?_
     ·refine Bn (vs:=[v217,(iV ((set:Int))),(iV ((t195:Int))),(iV ((((chooseN picks ((50 + done))):Nat):Int)))]) (v:=(.bool (shownB l set t195 ((chooseN picks ((50 + done))))))) (c_shown r217 (by omega) (by omega) (by omega)) Tryd.func54 rfl rfl ⟨rfl,rfl,rfl,rfl,trivial⟩ ⟨Ary,?_⟩
      have r221:Val ρ198 (.agg #[(iV ((t195:Int))),(.bool (shownB l set t195 ((chooseN picks ((50 + done))))))]) (⟨(t195:Int),shownB l set t195 ((chooseN picks ((50 + done))))⟩:Found):=Found.shut (x:=(⟨(t195:Int),shownB l set t195 ((chooseN picks ((50 + done))))⟩:Found)) (show I64 ((t195:Int)) from by constructor <;> omega)
      refine Be (i:=11) [o1,o1,o1,o1,o1,o1,o1,o1,o1,o1,o1,o1,o0,o0] rfl (by kernel_rfl) rfl Ary rfl (Dm (ns:=[1,1]) (vs:=[(0,(iV ((t195:Int)))),(1,(.bool (shownB l set t195 ((chooseN picks ((50 + done)))))))]) (zc:=Alq) (cs:=[(iV ((t195:Int))),(.bool (shownB l set t195 ((chooseN picks ((50 + done))))))]) Tryd.underlying43 Ahd rfl ⟨⟨_,Ab Tryd.typeInfo3,rfl⟩,⟨_,Ab Tryd.typeInfo4,rfl⟩,trivial⟩ (EvB.map ⟨⟨rfl,rfl⟩,⟨rfl,rfl⟩,trivial⟩) ((Bd (cs:=[(iV ((t195:Int)))]) rfl rfl (Nat.le_of_ble_eq_true rfl)).trans ((Bd (cs:=[(.bool (shownB l set t195 ((chooseN picks ((50 + done))))))]) rfl rfl (Nat.le_of_ble_eq_true rfl)).trans rfl))) ?_
      refine Dj (i:=12) [o1,o1,o1,o1,o1,o1,o1,o1,o1,o1,o1,o1,o1,o0] rfl (by kernel_rfl) rfl rfl (Ct Ahd fun k222=>⟨Ary,?_⟩)
      refine Fi (i:=13) [o1,o1,o1,o1,o1,o1,o1,o1,o1,o1,o1,o1,o1,o1] rfl (by kernel_rfl) rfl rfl (Du (v:=(.agg #[(iV ((t195:Int))),(.bool (shownB l set t195 ((chooseN picks ((50 + done))))))])) (a:=(⟨(t195:Int),shownB l set t195 ((chooseN picks ((50 + done))))⟩:Found)) (c:=Alq) Aax rfl rfl r221 rfl ⟨Ary,?_⟩)
      refine Ec rfl ?_
      apply k214
      refine Ng (a:=(⟨(t195:Int),shownB l set t195 ((chooseN picks ((50 + done))))⟩:Found)) r221 fun ρ223 l223 r223=>?_
      replace rk:=Asa l223 rk
      replace hg:=Glob.mono l223 hg
      replace r2:=Arv l223 r2
      replace r22:=Asa l223 r22
      replace OG182_8:=Grow.mono l223 OG182_8
      replace r198:=Arv l223 r198
      refine w_q rfl rfl fun K224 k224=>?_
      refine Aa rfl (Ah (v:=ov182_8) h182_8) ?_
      refine Ak rfl (Ax Aax rfl r223) fun v225 r225=>?_
      refine Ae rfl (Bi (α:=Found) (xs:=[(⟨(t195:Int),shownB l set t195 ((chooseN picks ((50 + done))))⟩:Found)]) (vs:=[v225]) Tryd.underlying41 Aax Ahd rfl (by decide) (Dl (os:=[.tmp 138]) ⟨rfl,trivial⟩) ⟨r225,trivial⟩ rfl (by decide) fun k226 cs226 R226=>?_)
      have G226:Grow ρ223 43 (.slice (some ⟨k226,0,none⟩) 1 1) ([(⟨(t195:Int),shownB l set t195 ((chooseN picks ((50 + done))))⟩:Found)]:List Found) [(k226,Res.obj (.cells cs226.toArray 43 (0,0)))]:=Bs R226 rfl (by decide)
      refine Ca G226 fun ρ228 l228 r228=>?_
      replace rk:=Asa l228 rk
      replace hg:=Glob.mono l228 hg
      replace r2:=Arv l228 r2
      replace r22:=Asa l228 r22
      replace OG182_8:=Grow.mono l228 OG182_8
      replace r198:=Arv l228 r198
      replace r223:=Arv l228 r223
      replace r225:=Asa l228 r225
      refine Ae rfl (Fx (σ:=σ) (gr:=og182_8) (xs:=r) (ys:=([(⟨(t195:Int),shownB l set t195 ((chooseN picks ((50 + done))))⟩:Found)]:List Found)) Tryd.underlying41 Tryd.underlying41 (Ab Tryd.typeInfo43) rfl (Nat.le_of_ble_eq_true rfl) rfl rfl rfl rfl OG182_8 r228 (by simp only [List.length_append,List.length_cons,List.length_nil] at *; omega) fun v227 gr227 G227=>?_)
      refine l_A v227 rfl rfl ?_
      apply Ac
      apply k224
      refine w_q rfl rfl fun K229 k229=>?_
      refine Ak rfl (Ay FNode.f_not Tryd.underlying94 rfl rfl ty3 (by decide) rfl r198) fun v230 r230=>?_
      have ⟨g231a,g231b⟩:=At.rng r230
      refine Aa rfl (Bc ty3 rfl r230) ?_
      refine l_A (iV (n195)) rfl rfl ?_
      apply Ac
      apply k229
      refine Ai fun K232 k232=>?_
      refine w_q rfl rfl fun K233 k233=>?_
      refine Ak rfl (Ay Found.f_found Tryd.underlying43 rfl rfl ty4 (by decide) rfl r223) fun v234 r234=>?_
      refine Aa rfl (Nw ty4 rfl r234) ?_
      apply Ac
      apply k233
      refine As (t:=shownB l set t195 ((chooseN picks ((50 + done))))) rfl (fun b236=>?_) (fun b236=>?_)
      ·refine Ag rfl rfl ?_
       refine Ak rfl (Ay FNode.f_found Tryd.underlying94 rfl rfl ty3 (by decide) rfl r198) fun v237 r237=>?_
       have ⟨g238a,g238b⟩:=At.rng r237
       refine Aa rfl (Bc ty3 rfl r237) ?_
       refine l_A (iV (f195)) rfl rfl ?_
       apply Ac
       apply k232
       refine Ag rfl rfl ?_
       refine Aa rfl (Ah (v:=(iV ((done:Int)))) h182_15) ?_
       refine Aa rfl (Br (p:=(done:Int)) (q:=1) rfl rfl (z:=(((done + 1):Nat):Int)) (Bo (by first | rfl | omega | (push_cast; rfl)) (by omega) (by omega))) ?_
       refine l_A (iV ((((done + 1):Nat):Int))) rfl rfl ?_
       apply Ac
       refine ⟨_,?_,((r ++ ([(⟨(t195:Int),shownB l set t195 ((chooseN picks ((50 + done))))⟩:Found)]:List Found))),(f195),((done + 1)),v227,gr227,rfl,rfl,(Arz (Arz (Arz l182 l198) l223) l228),rfl,h182_1,h182_3,h182_7,h182_9,h182_10,rfl,rfl,rfl,(by have hF:=(Follow.step (pick:=chooseN picks (50 + done)) p182_0 okT (by omega) ha194 rfl).2; rw [if_pos b236] at hF; exact hF),(by simp only [List.length_append,List.length_cons,List.length_nil]; omega),(Ga (rfl) G227),trivial⟩
       omega
      refine Al ?_
      apply k232
      refine Ag rfl rfl ?_
      refine Aa rfl (Ah (v:=(iV ((done:Int)))) h182_15) ?_
      refine Aa rfl (Br (p:=(done:Int)) (q:=1) rfl rfl (z:=(((done + 1):Nat):Int)) (Bo (by first | rfl | omega | (push_cast; rfl)) (by omega) (by omega))) ?_
      refine l_A (iV ((((done + 1):Nat):Int))) rfl rfl ?_
      apply Ac
      refine ⟨_,?_,((r ++ ([(⟨(t195:Int),shownB l set t195 ((chooseN picks ((50 + done))))⟩:Found)]:List Found))),(n195),((done + 1)),v227,gr227,rfl,rfl,(Arz (Arz (Arz l182 l198) l223) l228),rfl,h182_1,h182_3,h182_7,h182_9,h182_10,rfl,rfl,rfl,(by have hF:=(Follow.step (pick:=chooseN picks (50 + done)) p182_0 okT (by omega) ha194 rfl).2; rw [if_neg (by rw [b236]; exact Bool.false_ne_true)] at hF; exact hF),(by simp only [List.length_append,List.length_cons,List.length_nil]; omega),(Ga (rfl) G227),trivial⟩
      omega
     ·refine Ct Ahd fun k239=>⟨Ary,?_⟩
      refine Dj (i:=10) [o1,o1,o1,o1,o1,o1,o1,o1,o1,o1,o1,o0,o1,o0] rfl (by kernel_rfl) rfl rfl (Bn (vs:=[v217,(iV ((set:Int))),(iV ((t195:Int))),(iV ((((chooseN picks ((50 + done))):Nat):Int)))]) (v:=(.bool (shownB l set t195 ((chooseN picks ((50 + done))))))) (c_shown r217 (by omega) (by omega) (by omega)) Tryd.func54 rfl rfl ⟨rfl,rfl,rfl,rfl,trivial⟩ ⟨Ary,?_⟩)
      have r240:Val ρ198 (.agg #[(iV ((t195:Int))),(.bool (shownB l set t195 ((chooseN picks ((50 + done))))))]) (⟨(t195:Int),shownB l set t195 ((chooseN picks ((50 + done))))⟩:Found):=Found.shut (x:=(⟨(t195:Int),shownB l set t195 ((chooseN picks ((50 + done))))⟩:Found)) (show I64 ((t195:Int)) from by constructor <;> omega)
      refine Bg (i:=11) [o1,o1,o1,o1,o1,o1,o1,o1,o1,o1,o1,o1,o1,o0] rfl (by kernel_rfl) rfl Ary rfl (Dm (ns:=[1,1]) (vs:=[(0,(iV ((t195:Int)))),(1,(.bool (shownB l set t195 ((chooseN picks ((50 + done)))))))]) (zc:=Alq) (cs:=[(iV ((t195:Int))),(.bool (shownB l set t195 ((chooseN picks ((50 + done))))))]) Tryd.underlying43 Ahd rfl ⟨⟨_,Ab Tryd.typeInfo3,rfl⟩,⟨_,Ab Tryd.typeInfo4,rfl⟩,trivial⟩ (EvB.map ⟨⟨rfl,rfl⟩,⟨rfl,rfl⟩,trivial⟩) ((Bd (cs:=[(iV ((t195:Int)))]) rfl rfl (Nat.le_of_ble_eq_true rfl)).trans ((Bd (cs:=[(.bool (shownB l set t195 ((chooseN picks ((50 + done))))))]) rfl rfl (Nat.le_of_ble_eq_true rfl)).trans rfl))) ?_
      refine Fi (i:=13) [o1,o1,o1,o1,o1,o1,o1,o1,o1,o1,o1,o1,o1,o1] rfl (by kernel_rfl) rfl rfl (Du (v:=(.agg #[(iV ((t195:Int))),(.bool (shownB l set t195 ((chooseN picks ((50 + done))))))])) (a:=(⟨(t195:Int),shownB l set t195 ((chooseN picks ((50 + done))))⟩:Found)) (c:=Alq) Aax rfl rfl r240 rfl ⟨Ary,?_⟩)
      refine Ec rfl ?_
      apply k214
      refine Ng (a:=(⟨(t195:Int),shownB l set t195 ((chooseN picks ((50 + done))))⟩:Found)) r240 fun ρ241 l241 r241=>?_
      replace rk:=Asa l241 rk
      replace hg:=Glob.mono l241 hg
      replace r2:=Arv l241 r2
      replace r22:=Asa l241 r22
      replace OG182_8:=Grow.mono l241 OG182_8
      replace r198:=Arv l241 r198
      refine w_q rfl rfl fun K242 k242=>?_
      refine Aa rfl (Ah (v:=ov182_8) h182_8) ?_
      refine Ak rfl (Ax Aax rfl r241) fun v243 r243=>?_
      refine Ae rfl (Bi (α:=Found) (xs:=[(⟨(t195:Int),shownB l set t195 ((chooseN picks ((50 + done))))⟩:Found)]) (vs:=[v243]) Tryd.underlying41 Aax Ahd rfl (by decide) (Dl (os:=[.tmp 138]) ⟨rfl,trivial⟩) ⟨r243,trivial⟩ rfl (by decide) fun k244 cs244 R244=>?_)
      have G244:Grow ρ241 43 (.slice (some ⟨k244,0,none⟩) 1 1) ([(⟨(t195:Int),shownB l set t195 ((chooseN picks ((50 + done))))⟩:Found)]:List Found) [(k244,Res.obj (.cells cs244.toArray 43 (0,0)))]:=Bs R244 rfl (by decide)
      refine Ca G244 fun ρ246 l246 r246=>?_
      replace rk:=Asa l246 rk
      replace hg:=Glob.mono l246 hg
      replace r2:=Arv l246 r2
      replace r22:=Asa l246 r22
      replace OG182_8:=Grow.mono l246 OG182_8
      replace r198:=Arv l246 r198
      replace r241:=Arv l246 r241
      replace r243:=Asa l246 r243
      refine Ae rfl (Fx (σ:=σ) (gr:=og182_8) (xs:=r) (ys:=([(⟨(t195:Int),shownB l set t195 ((chooseN picks ((50 + done))))⟩:Found)]:List Found)) Tryd.underlying41 Tryd.underlying41 (Ab Tryd.typeInfo43) rfl (Nat.le_of_ble_eq_true rfl) rfl rfl rfl rfl OG182_8 r246 (by simp only [List.length_append,List.length_cons,List.length_nil] at *; omega) fun v245 gr245 G245=>?_)
      refine l_A v245 rfl rfl ?_
      apply Ac
      apply k242
      refine w_q rfl rfl fun K247 k247=>?_
      refine Ak rfl (Ay FNode.f_not Tryd.underlying94 rfl rfl ty3 (by decide) rfl r198) fun v248 r248=>?_
      have ⟨g249a,g249b⟩:=At.rng r248
      refine Aa rfl (Bc ty3 rfl r248) ?_
      refine l_A (iV (n195)) rfl rfl ?_
      apply Ac
      apply k247
      refine Ai fun K250 k250=>?_
      refine w_q rfl rfl fun K251 k251=>?_
      refine Ak rfl (Ay Found.f_found Tryd.underlying43 rfl rfl ty4 (by decide) rfl r241) fun v252 r252=>?_
      refine Aa rfl (Nw ty4 rfl r252) ?_
      apply Ac
      apply k251
      refine As (t:=shownB l set t195 ((chooseN picks ((50 + done))))) rfl (fun b254=>?_) (fun b254=>?_)
      ·refine Ag rfl rfl ?_
       refine Ak rfl (Ay FNode.f_found Tryd.underlying94 rfl rfl ty3 (by decide) rfl r198) fun v255 r255=>?_
       have ⟨g256a,g256b⟩:=At.rng r255
       refine Aa rfl (Bc ty3 rfl r255) ?_
       refine l_A (iV (f195)) rfl rfl ?_
       apply Ac
       apply k250
       refine Ag rfl rfl ?_
       refine Aa rfl (Ah (v:=(iV ((done:Int)))) h182_15) ?_
       refine Aa rfl (Br (p:=(done:Int)) (q:=1) rfl rfl (z:=(((done + 1):Nat):Int)) (Bo (by first | rfl | omega | (push_cast; rfl)) (by omega) (by omega))) ?_
       refine l_A (iV ((((done + 1):Nat):Int))) rfl rfl ?_
       apply Ac
       refine ⟨_,?_,((r ++ ([(⟨(t195:Int),shownB l set t195 ((chooseN picks ((50 + done))))⟩:Found)]:List Found))),(f195),((done + 1)),v245,gr245,rfl,rfl,(Arz (Arz (Arz l182 l198) l241) l246),rfl,h182_1,h182_3,h182_7,h182_9,h182_10,rfl,rfl,rfl,(by have hF:=(Follow.step (pick:=chooseN picks (50 + done)) p182_0 okT (by omega) ha194 rfl).2; rw [if_pos b254] at hF; exact hF),(by simp only [List.length_append,List.length_cons,List.length_nil]; omega),(Ga (rfl) G245),trivial⟩
       omega
      refine Al ?_
      apply k250
      refine Ag rfl rfl ?_
      refine Aa rfl (Ah (v:=(iV ((done:Int)))) h182_15) ?_
      refine Aa rfl (Br (p:=(done:Int)) (q:=1) rfl rfl (z:=(((done + 1):Nat):Int)) (Bo (by first | rfl | omega | (push_cast; rfl)) (by omega) (by omega))) ?_
      refine l_A (iV ((((done + 1):Nat):Int))) rfl rfl ?_
      apply Ac
      refine ⟨_,?_,((r ++ ([(⟨(t195:Int),shownB l set t195 ((chooseN picks ((50 + done))))⟩:Found)]:List Found))),(n195),((done + 1)),v245,gr245,rfl,rfl,(Arz (Arz (Arz l182 l198) l241) l246),rfl,h182_1,h182_3,h182_7,h182_9,h182_10,rfl,rfl,rfl,(by have hF:=(Follow.step (pick:=chooseN picks (50 + done)) p182_0 okT (by omega) ha194 rfl).2; rw [if_neg (by rw [b254]; exact Bool.false_ne_true)] at hF; exact hF),(by simp only [List.length_append,List.length_cons,List.length_nil]; omega),(Ga (rfl) G245),trivial⟩
      omega
    ·refine Ct Ahd fun k257=>⟨Ary,?_⟩
     have hch258:=chooseN_lt (l:=picks) (k:=((50 + done)))
     refine Dj (i:=9) [o1,o1,o1,o1,o1,o1,o1,o1,o1,o1,o0,o0,o1,o0] rfl (by kernel_rfl) rfl rfl (Bn (vs:=[vk,(iV ((((50 + done):Nat):Int)))]) (v:=(iV ((((chooseN picks ((50 + done))):Nat):Int)))) (c_choose rk) Tryd.func30 rfl rfl ⟨rfl,rfl,trivial⟩ ⟨Ary,?_⟩)
     refine Dj (i:=10) [o1,o1,o1,o1,o1,o1,o1,o1,o1,o1,o1,o0,o1,o0] rfl (by kernel_rfl) rfl rfl (Bn (vs:=[v217,(iV ((set:Int))),(iV ((t195:Int))),(iV ((((chooseN picks ((50 + done))):Nat):Int)))]) (v:=(.bool (shownB l set t195 ((chooseN picks ((50 + done))))))) (c_shown r217 (by omega) (by omega) (by omega)) Tryd.func54 rfl rfl ⟨rfl,rfl,rfl,rfl,trivial⟩ ⟨Ary,?_⟩)
     have r259:Val ρ198 (.agg #[(iV ((t195:Int))),(.bool (shownB l set t195 ((chooseN picks ((50 + done))))))]) (⟨(t195:Int),shownB l set t195 ((chooseN picks ((50 + done))))⟩:Found):=Found.shut (x:=(⟨(t195:Int),shownB l set t195 ((chooseN picks ((50 + done))))⟩:Found)) (show I64 ((t195:Int)) from by constructor <;> omega)
     refine Bg (i:=11) [o1,o1,o1,o1,o1,o1,o1,o1,o1,o1,o1,o1,o1,o0] rfl (by kernel_rfl) rfl Ary rfl (Dm (ns:=[1,1]) (vs:=[(0,(iV ((t195:Int)))),(1,(.bool (shownB l set t195 ((chooseN picks ((50 + done)))))))]) (zc:=Alq) (cs:=[(iV ((t195:Int))),(.bool (shownB l set t195 ((chooseN picks ((50 + done))))))]) Tryd.underlying43 Ahd rfl ⟨⟨_,Ab Tryd.typeInfo3,rfl⟩,⟨_,Ab Tryd.typeInfo4,rfl⟩,trivial⟩ (EvB.map ⟨⟨rfl,rfl⟩,⟨rfl,rfl⟩,trivial⟩) ((Bd (cs:=[(iV ((t195:Int)))]) rfl rfl (Nat.le_of_ble_eq_true rfl)).trans ((Bd (cs:=[(.bool (shownB l set t195 ((chooseN picks ((50 + done))))))]) rfl rfl (Nat.le_of_ble_eq_true rfl)).trans rfl))) ?_
     refine Fi (i:=13) [o1,o1,o1,o1,o1,o1,o1,o1,o1,o1,o1,o1,o1,o1] rfl (by kernel_rfl) rfl rfl (Du (v:=(.agg #[(iV ((t195:Int))),(.bool (shownB l set t195 ((chooseN picks ((50 + done))))))])) (a:=(⟨(t195:Int),shownB l set t195 ((chooseN picks ((50 + done))))⟩:Found)) (c:=Alq) Aax rfl rfl r259 rfl ⟨Ary,?_⟩)
     refine Ec rfl ?_
     apply k214
     refine Ng (a:=(⟨(t195:Int),shownB l set t195 ((chooseN picks ((50 + done))))⟩:Found)) r259 fun ρ260 l260 r260=>?_
     replace rk:=Asa l260 rk
     replace hg:=Glob.mono l260 hg
     replace r2:=Arv l260 r2
     replace r22:=Asa l260 r22
     replace OG182_8:=Grow.mono l260 OG182_8
     replace r198:=Arv l260 r198
     refine w_q rfl rfl fun K261 k261=>?_
     refine Aa rfl (Ah (v:=ov182_8) h182_8) ?_
     refine Ak rfl (Ax Aax rfl r260) fun v262 r262=>?_
     refine Ae rfl (Bi (α:=Found) (xs:=[(⟨(t195:Int),shownB l set t195 ((chooseN picks ((50 + done))))⟩:Found)]) (vs:=[v262]) Tryd.underlying41 Aax Ahd rfl (by decide) (Dl (os:=[.tmp 138]) ⟨rfl,trivial⟩) ⟨r262,trivial⟩ rfl (by decide) fun k263 cs263 R263=>?_)
     have G263:Grow ρ260 43 (.slice (some ⟨k263,0,none⟩) 1 1) ([(⟨(t195:Int),shownB l set t195 ((chooseN picks ((50 + done))))⟩:Found)]:List Found) [(k263,Res.obj (.cells cs263.toArray 43 (0,0)))]:=Bs R263 rfl (by decide)
     refine Ca G263 fun ρ265 l265 r265=>?_
     replace rk:=Asa l265 rk
     replace hg:=Glob.mono l265 hg
     replace r2:=Arv l265 r2
     replace r22:=Asa l265 r22
     replace OG182_8:=Grow.mono l265 OG182_8
     replace r198:=Arv l265 r198
     replace r260:=Arv l265 r260
     replace r262:=Asa l265 r262
     refine Ae rfl (Fx (σ:=σ) (gr:=og182_8) (xs:=r) (ys:=([(⟨(t195:Int),shownB l set t195 ((chooseN picks ((50 + done))))⟩:Found)]:List Found)) Tryd.underlying41 Tryd.underlying41 (Ab Tryd.typeInfo43) rfl (Nat.le_of_ble_eq_true rfl) rfl rfl rfl rfl OG182_8 r265 (by simp only [List.length_append,List.length_cons,List.length_nil] at *; omega) fun v264 gr264 G264=>?_)
     refine l_A v264 rfl rfl ?_
     apply Ac
     apply k261
     refine w_q rfl rfl fun K266 k266=>?_
     refine Ak rfl (Ay FNode.f_not Tryd.underlying94 rfl rfl ty3 (by decide) rfl r198) fun v267 r267=>?_
     have ⟨g268a,g268b⟩:=At.rng r267
     refine Aa rfl (Bc ty3 rfl r267) ?_
     refine l_A (iV (n195)) rfl rfl ?_
     apply Ac
     apply k266
     refine Ai fun K269 k269=>?_
     refine w_q rfl rfl fun K270 k270=>?_
     refine Ak rfl (Ay Found.f_found Tryd.underlying43 rfl rfl ty4 (by decide) rfl r260) fun v271 r271=>?_
     refine Aa rfl (Nw ty4 rfl r271) ?_
     apply Ac
     apply k270
     refine As (t:=shownB l set t195 ((chooseN picks ((50 + done))))) rfl (fun b273=>?_) (fun b273=>?_)
     ·refine Ag rfl rfl ?_
      refine Ak rfl (Ay FNode.f_found Tryd.underlying94 rfl rfl ty3 (by decide) rfl r198) fun v274 r274=>?_
      have ⟨g275a,g275b⟩:=At.rng r274
      refine Aa rfl (Bc ty3 rfl r274) ?_
      refine l_A (iV (f195)) rfl rfl ?_
      apply Ac
      apply k269
      refine Ag rfl rfl ?_
      refine Aa rfl (Ah (v:=(iV ((done:Int)))) h182_15) ?_
      refine Aa rfl (Br (p:=(done:Int)) (q:=1) rfl rfl (z:=(((done + 1):Nat):Int)) (Bo (by first | rfl | omega | (push_cast; rfl)) (by omega) (by omega))) ?_
      refine l_A (iV ((((done + 1):Nat):Int))) rfl rfl ?_
      apply Ac
      refine ⟨_,?_,((r ++ ([(⟨(t195:Int),shownB l set t195 ((chooseN picks ((50 + done))))⟩:Found)]:List Found))),(f195),((done + 1)),v264,gr264,rfl,rfl,(Arz (Arz (Arz l182 l198) l260) l265),rfl,h182_1,h182_3,h182_7,h182_9,h182_10,rfl,rfl,rfl,(by have hF:=(Follow.step (pick:=chooseN picks (50 + done)) p182_0 okT (by omega) ha194 rfl).2; rw [if_pos b273] at hF; exact hF),(by simp only [List.length_append,List.length_cons,List.length_nil]; omega),(Ga (rfl) G264),trivial⟩
      omega
     refine Al ?_
     apply k269
     refine Ag rfl rfl ?_
     refine Aa rfl (Ah (v:=(iV ((done:Int)))) h182_15) ?_
     refine Aa rfl (Br (p:=(done:Int)) (q:=1) rfl rfl (z:=(((done + 1):Nat):Int)) (Bo (by first | rfl | omega | (push_cast; rfl)) (by omega) (by omega))) ?_
     refine l_A (iV ((((done + 1):Nat):Int))) rfl rfl ?_
     apply Ac
     refine ⟨_,?_,((r ++ ([(⟨(t195:Int),shownB l set t195 ((chooseN picks ((50 + done))))⟩:Found)]:List Found))),(n195),((done + 1)),v264,gr264,rfl,rfl,(Arz (Arz (Arz l182 l198) l260) l265),rfl,h182_1,h182_3,h182_7,h182_9,h182_10,rfl,rfl,rfl,(by have hF:=(Follow.step (pick:=chooseN picks (50 + done)) p182_0 okT (by omega) ha194 rfl).2; rw [if_neg (by rw [b273]; exact Bool.false_ne_true)] at hF; exact hF),(by simp only [List.length_append,List.length_cons,List.length_nil]; omega),(Ga (rfl) G264),trivial⟩
     omega
   have q191:=of_decide_eq_false b191
   refine Bx ?_
   apply k181
   refine w_q rfl rfl fun K276 k276=>?_
   refine Ak rfl (Ax Aaj h182_3 r2) fun v277 r277=>?_
   refine Aa rfl (Ah (v:=ov182_8) h182_8) ?_
   refine Ca OG182_8 fun ρ278 l278 r278=>?_
   replace rk:=Asa l278 rk
   replace hg:=Glob.mono l278 hg
   replace r2:=Arv l278 r2
   replace r22:=Asa l278 r22
   replace r277:=Asa l278 r277
   obtain ⟨hD1,hD2,hD3,hD4,hD5⟩:=p182_0.done_ (by omega) hS4
   have hDl:=Fe (l:=Ba l r)
   refine Ae rfl (Cm (vs:=[v277,ov182_8]) (c_refRemain r277 r278 ok hres) Tryd.func55 rfl rfl ⟨rfl,rfl,trivial⟩ fun v279 ρ279 σ279 hc279=>?_)
   obtain ⟨l279,s279,r279⟩:=hc279
   replace s279:=s279.symm; subst s279
   replace rk:=Asa l279 rk
   replace hg:=Glob.mono l279 hg
   replace r2:=Arv l279 r2
   replace r22:=Asa l279 r22
   replace r277:=Asa l279 r277
   replace r278:=Asa l279 r278
   refine l_A v279 rfl rfl ?_
   apply Ac
   apply k276
   refine Ai fun K280 k280=>?_
   refine w_q rfl rfl fun K281 k281=>?_
   refine Aa rfl (Ah (v:=(iV (a_))) h182_14) ?_
   refine Aa rfl (Dg (p:=a_) (q:=(-1)) rfl rfl) ?_
   refine l_M (.bool (a_ != (-1))) rfl rfl ?_
   refine Aa (Ar rfl rfl rfl (by rw [hD1]; rfl)) (Ah (v:=(iV ((done:Int)))) h182_15) ?_
   refine Aa (Ar rfl rfl rfl (by rw [hD1]; rfl)) (Ah (v:=(iV (Xx l rs))) h182_10) ?_
   refine Aa (Ar rfl rfl rfl (by rw [hD1]; rfl)) (Gk (p:=(done:Int)) (q:=Xx l rs) rfl rfl) ?_
   refine Aa rfl (Bm rfl (by rw [hD1]; rfl) (v:=(.bool (decide ((done:Int) > Xx l rs)))) rfl) ?_
   refine l_M (.bool (decide ((done:Int) > Xx l rs))) rfl rfl ?_
   refine l_M v279 (Ar rfl rfl rfl (decide_eq_false (by omega))) rfl ?_
   have g282:=Val.len r279
   refine Aa (Ar rfl rfl rfl (decide_eq_false (by omega))) (Ce (el:=3) Tryd.underlying30 rfl r279) ?_
   refine Aa (Ar rfl rfl rfl (decide_eq_false (by omega))) (Ek (p:=(((Bw (Ba l r)).length:Nat):Int)) (q:=0) rfl rfl) ?_
   refine Aa rfl (Bm rfl (decide_eq_false (by omega)) (v:=(.bool ((((Bw (Ba l r)).length:Nat):Int) == 0))) rfl) ?_
   refine l_M (.bool ((((Bw (Ba l r)).length:Nat):Int) == 0)) rfl rfl ?_
   refine l_M v279 (Ar rfl rfl rfl (by rw [hDl]; exact beq_false_of_ne (by omega))) rfl ?_
   refine Ae (Ar rfl rfl rfl (by rw [hDl]; exact beq_false_of_ne (by omega))) (Bn (vs:=[v279]) (v:=(.bool (Dz (Bw (Ba l r))))) (c_Settled r279) Tryd.func56 rfl rfl ⟨rfl,trivial⟩ ?_)
   refine Aa (Ar rfl rfl rfl (by rw [hDl]; exact beq_false_of_ne (by omega))) (Ix (k:=Dz (Bw (Ba l r))) rfl) ?_
   refine Aa rfl (Bm rfl (by rw [hDl]; exact beq_false_of_ne (by omega)) (v:=(.bool (!(Dz (Bw (Ba l r)))))) rfl) ?_
   apply Ac
   apply k281
   refine Cg rfl (not_t hD4) ?_
   refine Al ?_
   apply k280
   refine w_q rfl rfl fun K283 k283=>?_
   refine l_M v279 rfl rfl ?_
   obtain ⟨a285,ha285⟩:=Ed (xs:=Bw (Ba l r)) (i:=0) (by omega)
   obtain ⟨b286,hb286,hz286⟩:=Uc ha285
   subst hz286
   refine Ak rfl (Ci 0 Tryd.underlying30 ty3 rfl r279 (q:=0) rfl rfl ha285) fun v284 r284=>?_
   have ⟨g287a,g287b⟩:=At.rng r284
   refine Aa rfl (Bc ty3 rfl r284) ?_
   refine Aa rfl (Ek (p:=(b286:Int)) (q:=0) rfl rfl) ?_
   refine Aa rfl (Ah (v:=(iV ((set:Int)))) h182_7) ?_
   refine Aa rfl (Ek (p:=(set:Int)) (q:=0) rfl rfl) ?_
   refine Aa rfl (y_eqlb Tryd.underlying4 (p:=(b286:Int) == 0) (q:=(set:Int) == 0) rfl rfl) ?_
   refine l_M (.bool (((b286:Int) == 0) == ((set:Int) == 0))) rfl rfl ?_
   refine Cn (((b286:Int) == 0) == ((set:Int) == 0)) (fun b288=>?_) (fun b288=>?_)
   ·have q288:=Jo b288
    refine Ae (Ar rfl rfl rfl b288) (Bn (vs:=[]) (v:=(.bool (true))) (calls_up (c_tells hg hnr)) Tryd.func17 rfl rfl trivial ?_)
    refine Aa rfl (Bt rfl b288 (v:=(.bool (true))) rfl) ?_
    refine l_A (.bool (true)) rfl rfl ?_
    apply Ac
    apply k283
    refine Aj (Arw (Arz (Arz (Arz (Arz (Arz l2 l17) l22) l182) l278) l279)) ?_
    refine Aq ?_
    refine hret _ _ _ ?_
    refine ⟨rfl,rfl,Eq.trans (b:=(.bool (true))) rfl ?_⟩
    rfl
   have q288:=La b288
   refine Ap (Bl rfl rfl rfl b288) ?_
   refine Aa rfl (Bm rfl b288 (v:=(.bool (false))) rfl) ?_
   refine l_A (.bool (false)) rfl rfl ?_
   apply Ac
   apply k283
   refine Aj (Arw (Arz (Arz (Arz (Arz (Arz l2 l17) l22) l182) l278) l279)) ?_
   refine Aq ?_
   refine hret _ _ _ ?_
   refine ⟨rfl,rfl,Eq.trans (b:=(.bool (false))) rfl ?_⟩
   exfalso; have h9:=hD5 _ hb286; have h8:=b288
   by_cases hz:set = 0
   ·rw [hz,h9.2 hz] at h8; simp at h8
   ·have h7:¬ b286 = 0:=fun e=>hz (h9.1 e)
    rw [show ((b286:Int) == 0) = false from beq_false_of_ne (by omega),show ((set:Int) == 0) = false from beq_false_of_ne (by omega)] at h8; simp at h8
  have q187:=of_decide_eq_false b187
  refine Ap (Bl rfl rfl rfl b187) ?_
  refine Ap (Bl rfl rfl rfl b187) ?_
  refine Ap (Bl rfl rfl rfl b187) ?_
  refine Ap (Bl rfl rfl rfl b187) ?_
  refine Ap (Bl rfl rfl rfl b187) ?_
  refine Aa rfl (Bm rfl b187 (v:=(.bool (false))) rfl) ?_
  apply Ac
  apply k184
  refine Cg rfl rfl ?_
  refine Bx ?_
  apply k181
  refine w_q rfl rfl fun K289 k289=>?_
  refine Ak rfl (Ax Aaj h182_3 r2) fun v290 r290=>?_
  refine Aa rfl (Ah (v:=ov182_8) h182_8) ?_
  refine Ca OG182_8 fun ρ291 l291 r291=>?_
  replace rk:=Asa l291 rk
  replace hg:=Glob.mono l291 hg
  replace r2:=Arv l291 r2
  replace r22:=Asa l291 r22
  replace r290:=Asa l291 r290
  obtain ⟨hD1,hD2,hD3,hD4,hD5⟩:=p182_0.done_ (by omega) hS4
  have hDl:=Fe (l:=Ba l r)
  refine Ae rfl (Cm (vs:=[v290,ov182_8]) (c_refRemain r290 r291 ok hres) Tryd.func55 rfl rfl ⟨rfl,rfl,trivial⟩ fun v292 ρ292 σ292 hc292=>?_)
  obtain ⟨l292,s292,r292⟩:=hc292
  replace s292:=s292.symm; subst s292
  replace rk:=Asa l292 rk
  replace hg:=Glob.mono l292 hg
  replace r2:=Arv l292 r2
  replace r22:=Asa l292 r22
  replace r290:=Asa l292 r290
  replace r291:=Asa l292 r291
  refine l_A v292 rfl rfl ?_
  apply Ac
  apply k289
  refine Ai fun K293 k293=>?_
  refine w_q rfl rfl fun K294 k294=>?_
  refine Aa rfl (Ah (v:=(iV (a_))) h182_14) ?_
  refine Aa rfl (Dg (p:=a_) (q:=(-1)) rfl rfl) ?_
  refine l_M (.bool (a_ != (-1))) rfl rfl ?_
  refine Aa (Ar rfl rfl rfl (by rw [hD1]; rfl)) (Ah (v:=(iV ((done:Int)))) h182_15) ?_
  refine Aa (Ar rfl rfl rfl (by rw [hD1]; rfl)) (Ah (v:=(iV (Xx l rs))) h182_10) ?_
  refine Aa (Ar rfl rfl rfl (by rw [hD1]; rfl)) (Gk (p:=(done:Int)) (q:=Xx l rs) rfl rfl) ?_
  refine Aa rfl (Bm rfl (by rw [hD1]; rfl) (v:=(.bool (decide ((done:Int) > Xx l rs)))) rfl) ?_
  refine l_M (.bool (decide ((done:Int) > Xx l rs))) rfl rfl ?_
  refine l_M v292 (Ar rfl rfl rfl (decide_eq_false (by omega))) rfl ?_
  have g295:=Val.len r292
  refine Aa (Ar rfl rfl rfl (decide_eq_false (by omega))) (Ce (el:=3) Tryd.underlying30 rfl r292) ?_
  refine Aa (Ar rfl rfl rfl (decide_eq_false (by omega))) (Ek (p:=(((Bw (Ba l r)).length:Nat):Int)) (q:=0) rfl rfl) ?_
  refine Aa rfl (Bm rfl (decide_eq_false (by omega)) (v:=(.bool ((((Bw (Ba l r)).length:Nat):Int) == 0))) rfl) ?_
  refine l_M (.bool ((((Bw (Ba l r)).length:Nat):Int) == 0)) rfl rfl ?_
  refine l_M v292 (Ar rfl rfl rfl (by rw [hDl]; exact beq_false_of_ne (by omega))) rfl ?_
  refine Ae (Ar rfl rfl rfl (by rw [hDl]; exact beq_false_of_ne (by omega))) (Bn (vs:=[v292]) (v:=(.bool (Dz (Bw (Ba l r))))) (c_Settled r292) Tryd.func56 rfl rfl ⟨rfl,trivial⟩ ?_)
  refine Aa (Ar rfl rfl rfl (by rw [hDl]; exact beq_false_of_ne (by omega))) (Ix (k:=Dz (Bw (Ba l r))) rfl) ?_
  refine Aa rfl (Bm rfl (by rw [hDl]; exact beq_false_of_ne (by omega)) (v:=(.bool (!(Dz (Bw (Ba l r)))))) rfl) ?_
  apply Ac
  apply k294
  refine Cg rfl (not_t hD4) ?_
  refine Al ?_
  apply k293
  refine w_q rfl rfl fun K296 k296=>?_
  refine l_M v292 rfl rfl ?_
  obtain ⟨a298,ha298⟩:=Ed (xs:=Bw (Ba l r)) (i:=0) (by omega)
  obtain ⟨b299,hb299,hz299⟩:=Uc ha298
  subst hz299
  refine Ak rfl (Ci 0 Tryd.underlying30 ty3 rfl r292 (q:=0) rfl rfl ha298) fun v297 r297=>?_
  have ⟨g300a,g300b⟩:=At.rng r297
  refine Aa rfl (Bc ty3 rfl r297) ?_
  refine Aa rfl (Ek (p:=(b299:Int)) (q:=0) rfl rfl) ?_
  refine Aa rfl (Ah (v:=(iV ((set:Int)))) h182_7) ?_
  refine Aa rfl (Ek (p:=(set:Int)) (q:=0) rfl rfl) ?_
  refine Aa rfl (y_eqlb Tryd.underlying4 (p:=(b299:Int) == 0) (q:=(set:Int) == 0) rfl rfl) ?_
  refine l_M (.bool (((b299:Int) == 0) == ((set:Int) == 0))) rfl rfl ?_
  refine Cn (((b299:Int) == 0) == ((set:Int) == 0)) (fun b301=>?_) (fun b301=>?_)
  ·have q301:=Jo b301
   refine Ae (Ar rfl rfl rfl b301) (Bn (vs:=[]) (v:=(.bool (true))) (calls_up (c_tells hg hnr)) Tryd.func17 rfl rfl trivial ?_)
   refine Aa rfl (Bt rfl b301 (v:=(.bool (true))) rfl) ?_
   refine l_A (.bool (true)) rfl rfl ?_
   apply Ac
   apply k296
   refine Aj (Arw (Arz (Arz (Arz (Arz (Arz l2 l17) l22) l182) l291) l292)) ?_
   refine Aq ?_
   refine hret _ _ _ ?_
   refine ⟨rfl,rfl,Eq.trans (b:=(.bool (true))) rfl ?_⟩
   rfl
  have q301:=La b301
  refine Ap (Bl rfl rfl rfl b301) ?_
  refine Aa rfl (Bm rfl b301 (v:=(.bool (false))) rfl) ?_
  refine l_A (.bool (false)) rfl rfl ?_
  apply Ac
  apply k296
  refine Aj (Arw (Arz (Arz (Arz (Arz (Arz l2 l17) l22) l182) l291) l292)) ?_
  refine Aq ?_
  refine hret _ _ _ ?_
  refine ⟨rfl,rfl,Eq.trans (b:=(.bool (false))) rfl ?_⟩
  exfalso; have h9:=hD5 _ hb299; have h8:=b301
  by_cases hz:set = 0
  ·rw [hz,h9.2 hz] at h8; simp at h8
  ·have h7:¬ b299 = 0:=fun e=>hz (h9.1 e)
   rw [show ((b299:Int) == 0) = false from beq_false_of_ne (by omega),show ((set:Int) == 0) = false from beq_false_of_ne (by omega)] at h8; simp at h8
 have q185:=of_decide_eq_false b185
 refine Ap (Bl rfl rfl rfl b185) ?_
 refine Ap (Bl rfl rfl rfl b185) ?_
 refine Ap (Bl rfl rfl rfl b185) ?_
 refine Ap (Bl rfl rfl rfl b185) ?_
 refine Aa rfl (Bm rfl b185 (v:=(.bool (false))) rfl) ?_
 refine l_M (.bool (false)) rfl rfl ?_
 refine Ap (Bl rfl rfl rfl rfl) ?_
 refine Ap (Bl rfl rfl rfl rfl) ?_
 refine Ap (Bl rfl rfl rfl rfl) ?_
 refine Ap (Bl rfl rfl rfl rfl) ?_
 refine Ap (Bl rfl rfl rfl rfl) ?_
 refine Aa rfl (Bm rfl rfl (v:=(.bool (false))) rfl) ?_
 apply Ac
 apply k184
 refine Cg rfl rfl ?_
 refine Bx ?_
 apply k181
 refine w_q rfl rfl fun K302 k302=>?_
 refine Ak rfl (Ax Aaj h182_3 r2) fun v303 r303=>?_
 refine Aa rfl (Ah (v:=ov182_8) h182_8) ?_
 refine Ca OG182_8 fun ρ304 l304 r304=>?_
 replace rk:=Asa l304 rk
 replace hg:=Glob.mono l304 hg
 replace r2:=Arv l304 r2
 replace r22:=Asa l304 r22
 replace r303:=Asa l304 r303
 obtain ⟨hD1,hD2,hD3,hD4,hD5⟩:=p182_0.done_ (by omega) hS4
 have hDl:=Fe (l:=Ba l r)
 refine Ae rfl (Cm (vs:=[v303,ov182_8]) (c_refRemain r303 r304 ok hres) Tryd.func55 rfl rfl ⟨rfl,rfl,trivial⟩ fun v305 ρ305 σ305 hc305=>?_)
 obtain ⟨l305,s305,r305⟩:=hc305
 replace s305:=s305.symm; subst s305
 replace rk:=Asa l305 rk
 replace hg:=Glob.mono l305 hg
 replace r2:=Arv l305 r2
 replace r22:=Asa l305 r22
 replace r303:=Asa l305 r303
 replace r304:=Asa l305 r304
 refine l_A v305 rfl rfl ?_
 apply Ac
 apply k302
 refine Ai fun K306 k306=>?_
 refine w_q rfl rfl fun K307 k307=>?_
 refine Aa rfl (Ah (v:=(iV (a_))) h182_14) ?_
 refine Aa rfl (Dg (p:=a_) (q:=(-1)) rfl rfl) ?_
 refine l_M (.bool (a_ != (-1))) rfl rfl ?_
 refine Aa (Ar rfl rfl rfl (by rw [hD1]; rfl)) (Ah (v:=(iV ((done:Int)))) h182_15) ?_
 refine Aa (Ar rfl rfl rfl (by rw [hD1]; rfl)) (Ah (v:=(iV (Xx l rs))) h182_10) ?_
 refine Aa (Ar rfl rfl rfl (by rw [hD1]; rfl)) (Gk (p:=(done:Int)) (q:=Xx l rs) rfl rfl) ?_
 refine Aa rfl (Bm rfl (by rw [hD1]; rfl) (v:=(.bool (decide ((done:Int) > Xx l rs)))) rfl) ?_
 refine l_M (.bool (decide ((done:Int) > Xx l rs))) rfl rfl ?_
 refine l_M v305 (Ar rfl rfl rfl (decide_eq_false (by omega))) rfl ?_
 have g308:=Val.len r305
 refine Aa (Ar rfl rfl rfl (decide_eq_false (by omega))) (Ce (el:=3) Tryd.underlying30 rfl r305) ?_
 refine Aa (Ar rfl rfl rfl (decide_eq_false (by omega))) (Ek (p:=(((Bw (Ba l r)).length:Nat):Int)) (q:=0) rfl rfl) ?_
 refine Aa rfl (Bm rfl (decide_eq_false (by omega)) (v:=(.bool ((((Bw (Ba l r)).length:Nat):Int) == 0))) rfl) ?_
 refine l_M (.bool ((((Bw (Ba l r)).length:Nat):Int) == 0)) rfl rfl ?_
 refine l_M v305 (Ar rfl rfl rfl (by rw [hDl]; exact beq_false_of_ne (by omega))) rfl ?_
 refine Ae (Ar rfl rfl rfl (by rw [hDl]; exact beq_false_of_ne (by omega))) (Bn (vs:=[v305]) (v:=(.bool (Dz (Bw (Ba l r))))) (c_Settled r305) Tryd.func56 rfl rfl ⟨rfl,trivial⟩ ?_)
 refine Aa (Ar rfl rfl rfl (by rw [hDl]; exact beq_false_of_ne (by omega))) (Ix (k:=Dz (Bw (Ba l r))) rfl) ?_
 refine Aa rfl (Bm rfl (by rw [hDl]; exact beq_false_of_ne (by omega)) (v:=(.bool (!(Dz (Bw (Ba l r)))))) rfl) ?_
 apply Ac
 apply k307
 refine Cg rfl (not_t hD4) ?_
 refine Al ?_
 apply k306
 refine w_q rfl rfl fun K309 k309=>?_
 refine l_M v305 rfl rfl ?_
 obtain ⟨a311,ha311⟩:=Ed (xs:=Bw (Ba l r)) (i:=0) (by omega)
 obtain ⟨b312,hb312,hz312⟩:=Uc ha311
 subst hz312
 refine Ak rfl (Ci 0 Tryd.underlying30 ty3 rfl r305 (q:=0) rfl rfl ha311) fun v310 r310=>?_
 have ⟨g313a,g313b⟩:=At.rng r310
 refine Aa rfl (Bc ty3 rfl r310) ?_
 refine Aa rfl (Ek (p:=(b312:Int)) (q:=0) rfl rfl) ?_
 refine Aa rfl (Ah (v:=(iV ((set:Int)))) h182_7) ?_
 refine Aa rfl (Ek (p:=(set:Int)) (q:=0) rfl rfl) ?_
 refine Aa rfl (y_eqlb Tryd.underlying4 (p:=(b312:Int) == 0) (q:=(set:Int) == 0) rfl rfl) ?_
 refine l_M (.bool (((b312:Int) == 0) == ((set:Int) == 0))) rfl rfl ?_
 refine Cn (((b312:Int) == 0) == ((set:Int) == 0)) (fun b314=>?_) (fun b314=>?_)
 ·have q314:=Jo b314
  refine Ae (Ar rfl rfl rfl b314) (Bn (vs:=[]) (v:=(.bool (true))) (calls_up (c_tells hg hnr)) Tryd.func17 rfl rfl trivial ?_)
  refine Aa rfl (Bt rfl b314 (v:=(.bool (true))) rfl) ?_
  refine l_A (.bool (true)) rfl rfl ?_
  apply Ac
  apply k309
  refine Aj (Arw (Arz (Arz (Arz (Arz (Arz l2 l17) l22) l182) l304) l305)) ?_
  refine Aq ?_
  refine hret _ _ _ ?_
  refine ⟨rfl,rfl,Eq.trans (b:=(.bool (true))) rfl ?_⟩
  rfl
 have q314:=La b314
 refine Ap (Bl rfl rfl rfl b314) ?_
 refine Aa rfl (Bm rfl b314 (v:=(.bool (false))) rfl) ?_
 refine l_A (.bool (false)) rfl rfl ?_
 apply Ac
 apply k309
 refine Aj (Arw (Arz (Arz (Arz (Arz (Arz l2 l17) l22) l182) l304) l305)) ?_
 refine Aq ?_
 refine hret _ _ _ ?_
 refine ⟨rfl,rfl,Eq.trans (b:=(.bool (false))) rfl ?_⟩
 exfalso; have h9:=hD5 _ hb312; have h8:=b314
 by_cases hz:set = 0
 ·rw [hz,h9.2 hz] at h8; simp at h8
 ·have h7:¬ b312 = 0:=fun e=>hz (h9.1 e)
  rw [show ((b312:Int) == 0) = false from beq_false_of_ne (by omega),show ((set:Int) == 0) = false from beq_false_of_ne (by omega)] at h8; simp at h8
end Go.Proofs.YtoefdnbaklajeaaDoor

namespace Go.Proofs.YtoefdnbaklajeaaDoor
open Go Go.WideShapes Go.ChangeShapes Go.RowKit Go.Conc
set_option maxRecDepth 100000
theorem fakeSettled_lifted (os:Os) (started:os.Started) (H:Type) (enc:TypeId × Value→H):ReturnsInLeavingWide {} Tryd.checked os 14 .any (Aqs H enc Rows.fakeSettledSpec Tryd.f14) (Rows.fakeSettledSpec.post enc Tryd.prog Tryd.f14 false true false false):=by
  refine law_liftY (r:=6) os started H enc Tryd.func14 rfl rfl (by kernel_rfl) (by decide) (fun ds hd=>?_)
    (ChangeSpec.witness_shaped (enc:=enc) (C:=Tryd.checked) (os:=os) (X:=fun w _=>laidMetH Tryd.prog laidL w) false (World.doorLaid Tryd.prog 2000 os) #[.agg #[.slice none 0 0,.int .i64 0,.slice none 0 0],.slice none 0 0,.int .u8 0] 8 rfl (World.shaped_of_RefB (by kernel_rfl) (by kernel_rfl)) (by kernel_rfl) (by kernel_rfl) (by kernel_rfl) (door_met os _)) ?_
  · match ds,hd with
    | [d1,d2,d3],_=>rfl
  · intro W args ds ps hv hA hw hg
    obtain ⟨hl1,hl2⟩:=Sa hA
    match args,hl1,ds,hl2,hA with
    | [v1,v2,v3],_,[d1,d2,d3],_,⟨p1,q1,h1,⟨p2,q2,h2,⟨p3,q3,h3,_,_⟩,_⟩,_⟩ =>
      obtain ⟨b1,k1⟩:=hv 0 40 v1 rfl rfl
      obtain ⟨b2,k2⟩:=hv 1 55 v2 rfl rfl
      obtain ⟨b3,k3⟩:=hv 2 5 v3 rfl rfl
      obtain ⟨x1,rx1⟩:=arg_struct dec40 rfl Tryd.underlying40 k1 h1 (weights_at hw (j:=0) rfl rfl)
      obtain ⟨x2,rx2⟩:=arg_slice (dec_list Tryd.underlying55 (by kernel_rfl) (Nat.le_of_ble_eq_true (by kernel_rfl)) (by decide) (dec_uh Tryd.underlying68 (by kernel_rfl))) Tryd.underlying55 k2 h2 (weights_at hw (j:=1) rfl rfl)
      obtain ⟨x3,rfl,lx3⟩:=arg_u8 Tryd.underlying5 k3 h3
      exact c_FakeSettled hg (fun c vs h=>by cases h) rx1 rx2 lx3
theorem fakeSettled_row:Rows.FakeSettledSaid :=
  OpenClaim.holds_of_wide_leaving 14 Tryd.f14 rfl rfl rfl rfl rfl rfl rfl ⟨rfl,rfl,rfl,rfl,rfl⟩ rfl rfl rfl rfl rfl (by kernel_rfl) Tryd.func14 (by kernel_rfl)
    (of_decide_eq_true (by kernel_rfl)) (by unfold Func.isWrapper; first | (rw [if_pos (by decide +kernel)]; kernel_rfl) | (rw [if_neg (by decide +kernel)]; exact ⟨rfl,rfl⟩))
    (fun os started H enc _=>fakeSettled_lifted os started H enc)
theorem fakeSettled_holds:Rows.FakeSettledCardSaid :=
  tied_goes .later [.funcs,.data] true (true,"5ad7a6b1106c4d9dff1ffa762e242e88c7338921ee0cf2e26581c2f653fcb6c6") false fakeSettled_row (by kernel_rfl) fakeSettled_row_tie rfl ⟨rfl,rfl⟩ (by kernel_rfl) rfl
    (fun f fn hf hfn=>by
      obtain rfl:f = 14:=Option.some.inj ((show Tryd.prog.funcNamed "crocus/crocuslaw08.FakeSettled" = some 14 by kernel_rfl).symm.trans hf) |>.symm
      obtain rfl:fn = Tryd.f14:=(Option.some.inj (Tryd.func14.symm.trans hfn)).symm
      exact ⟨by kernel_rfl,fun j t ht=>by
        have h2:t = 40∨t = 55∨t = 5:=by
          match j,ht with
          | 0,h=>exact .inl (Option.some.inj h).symm
          | 1,h=>exact .inr (.inl (Option.some.inj h).symm)
          | 2,h=>exact .inr (.inr ((Option.some.inj h).symm))
        rcases h2 with rfl | rfl | rfl
        · exact (show Tryd.prog.wantsStandIn 40 = false by kernel_rfl)
        · exact (show Tryd.prog.wantsStandIn 55 = false by kernel_rfl)
        · exact (show Tryd.prog.wantsStandIn 5 = false by kernel_rfl)⟩)
    (by kernel_rfl)
end Go.Proofs.YtoefdnbaklajeaaDoor
