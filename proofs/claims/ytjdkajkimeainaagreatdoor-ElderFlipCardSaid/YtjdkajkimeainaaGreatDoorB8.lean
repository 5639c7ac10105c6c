/- Part 8 of what all laws of layer 8 need: a logic of programs that start goroutines, and what the functions yield. -/
import Derived.Test.YtjdkajkimeainaaGreatDoorB6
set_option linter.unusedVariables false
set_option linter.unusedSimpArgs false
set_option maxRecDepth 100000
set_option maxHeartbeats 4000000
namespace Go.Proofs.YtjdkajkimeainaaGreatDoor
section
open Go Go.WideShapes Go.ChangeShapes Go.RowKit Go.Conc
set_option maxRecDepth 100000
theorem Yj(os:Os)(started:os.Started)(H:Type)(enc:TypeId×Value→H):ReturnsInLeavingWide {} Tryz.checked os 4 .any (Anu H enc Rows.elderFlipSpec Tryz.f4) (Rows.elderFlipSpec.post enc Tryz.prog Tryz.f4 false true false false):=by
 refine Vp (r:=8) os started H enc Tryz.func4 rfl rfl (by kernel_rfl) (by decide) (fun ds hd=>?_)
  (ChangeSpec.witness_shaped (enc:=enc) (C:=Tryz.checked) (os:=os) (X:=fun w _=>laidMetH Tryz.prog laidLK w) false (doorK os) #[.string (ByteArray.mk #[]),.slice none 0 0,.int .u16 0,.int .u8 0] 8 rfl (World.shaped_of_RefB (by kernel_rfl) (by kernel_rfl)) (by kernel_rfl) (by kernel_rfl) (by kernel_rfl) (Yf os _)) ?_
 ·match ds,hd with
  | [d1,d2,d3,d4],_=>rfl
 ·intro W a ds ps hv hA hw hg
  obtain⟨b,c⟩:=Sb hA
  match a,b,ds,c,hA with
  | [v1,v2,v3,v4],_,[d1,d2,d3,d4],_,⟨p1,q1,h1,⟨p2,q2,h2,⟨p3,q3,h3,⟨p4,q4,h4,_,_⟩,_⟩,_⟩,_⟩ =>
   obtain⟨m,d⟩:=hv 0 9 v1 rfl rfl
   obtain⟨n,e⟩:=hv 1 22 v2 rfl rfl
   obtain⟨p,f⟩:=hv 2 32 v3 rfl rfl
   obtain⟨q,g⟩:=hv 3 5 v4 rfl rfl
   obtain⟨t,rfl⟩:=Wd Brs d h1
   obtain⟨u,k⟩:=Ahr (Aop Brt (by kernel_rfl) (lZ5 (by kernel_rfl)) (by decide) (Ave Brs (by kernel_rfl))) Brt e h2 (Agl hw (j:=1) rfl rfl)
   obtain⟨v,rfl,h⟩:=Bgr Tryz.underlying32 f h3
   obtain⟨x,rfl,i⟩:=Blk Brv g h4
   exact Aod hg NoRecv.nil k h i
theorem Alp:laidOutB Tryz.prog=true:=by kernel_rfl
theorem Alq:mapsRowed Tryz.prog=true:=by kernel_rfl
theorem Als:(Rows.elderFlipRow.inPlace==Tryz.prog.inPlace (idF (.func 4)))=true:=by kernel_rfl
theorem Alt:(Rows.elderFlipRow.unfollowed==Tryz.prog.unfollowed (idF (.func 4)))=true:=by kernel_rfl
theorem Alu:(Rows.elderFlipRow.recurses==Tryz.prog.recurses (idF (.func 4)))=true:=by kernel_rfl
theorem Alv:(Rows.elderFlipRow.named==Tryz.prog.varsNamed (idF (.func 4)))=true:=by kernel_rfl
theorem Alw:(Rows.elderFlipRow.plainKeys==Tryz.prog.plainKeys)=true:=by kernel_rfl
theorem Alx:Tryz.prog.stopsHeard=true:=by kernel_rfl
theorem Aly:Tryz.prog.mayEnter=true:=by kernel_rfl
theorem elderFlip_name:Tryz.prog.funcNamed "crocus/crocuslaw10.ElderFlip" = some 4:=by kernel_rfl
theorem Yi:joinedFacts Tryz.prog (idF (.func 4)) Tryz.f4 Rows.elderFlipSpec Rows.elderFlipRow=true:=by
 unfold joinedFacts
 rw[Alp,Alq,Als,Alt,Alu,Alv,Alw,Alx,Aly]
 kernel_rfl
theorem Ahe:Rows.ElderFlipSaid :=
 OpenClaim.holds_of_wide_leaving 4 Tryz.f4 rfl rfl rfl rfl rfl rfl rfl ⟨rfl,rfl,rfl,rfl,rfl⟩ rfl rfl rfl rfl rfl elderFlip_name Tryz.func4 Yi
  (lZ3 (by kernel_rfl)) (by unfold Func.isWrapper;first|(rw[if_pos (by decide +kernel)];kernel_rfl)|(rw[if_neg (by decide +kernel)];exact⟨rfl,rfl⟩))
  (fun os a H enc _=>Yj os a H enc)
theorem elderFlip_holds:Rows.ElderFlipCardSaid :=
 Zm .later [.data,.data,.data,.data,.sentinel,.sentinel,.funcsDeep,.funcsDeep,.funcs,.data,.funcs,.data,.pinned] true (true,"c01632f961e1a4c54b285fdc16073769fbf40a9317185013ba076738ae046c28") true Ahe (by kernel_rfl) elderFlip_row_tie rfl ⟨rfl,rfl⟩ (by kernel_rfl) rfl
  (fun f fn hf hfn=>by
   obtain rfl:f=4:=Option.some.inj (elderFlip_name.symm.trans hf) |>.symm
   obtain rfl:fn=Tryz.f4:=(Option.some.inj (Tryz.func4.symm.trans hfn)).symm
   exact⟨by kernel_rfl,fun j t ht=>by
    have a:t=9∨t=22∨t=32∨t=5:=by
     match j,ht with
     | 0,h=>exact .inl (Option.some.inj h).symm
     | 1,h=>exact .inr (.inl (Option.some.inj h).symm)
     | 2,h=>exact .inr (.inr (.inl (Option.some.inj h).symm))
     | 3,h=>exact .inr (.inr (.inr ((Option.some.inj h).symm)))
    rcases a with rfl|rfl|rfl|rfl
    ·exact(show Tryz.prog.wantsStandIn 9=false by kernel_rfl)
    ·exact(show Tryz.prog.wantsStandIn 22=false by kernel_rfl)
    ·exact(show Tryz.prog.wantsStandIn 32=false by kernel_rfl)
    ·exact(show Tryz.prog.wantsStandIn 5=false by kernel_rfl)⟩)
  (by kernel_rfl)
end
end Go.Proofs.YtjdkajkimeainaaGreatDoor
