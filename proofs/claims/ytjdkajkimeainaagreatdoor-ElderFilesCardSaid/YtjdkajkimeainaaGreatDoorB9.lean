/- Part 9 of what all laws of layer 8 need: a logic of programs that start goroutines, and what the functions yield. -/
import Derived.Test.YtjdkajkimeainaaGreatDoorB6
set_option linter.unusedVariables false
set_option linter.unusedSimpArgs false
set_option maxRecDepth 100000
set_option maxHeartbeats 4000000
namespace Go.Proofs.YtjdkajkimeainaaGreatDoor
section
open Go Go.WideShapes Go.ChangeShapes Go.RowKit Go.Conc
set_option maxRecDepth 100000
theorem Wk(os:Os)(started:os.Started)(H:Type)(enc:TypeId×Value→H):ReturnsInLeavingWide {} Tryz.checked os 3 .any (Anu H enc Rows.elderFilesSpec Tryz.f3) (Rows.elderFilesSpec.post enc Tryz.prog Tryz.f3 false true false false):=by
 refine Vp (r:=6) os started H enc Tryz.func3 rfl rfl (by kernel_rfl) (by decide) (fun ds hd=>?_)
  (ChangeSpec.witness_shaped (enc:=enc) (C:=Tryz.checked) (os:=os) (X:=fun w _=>laidMetH Tryz.prog laidLK w) false (doorK os) #[.string (ByteArray.mk #[]),.slice none 0 0,.string (ByteArray.mk #[])] 8 rfl (World.shaped_of_RefB (by kernel_rfl) (by kernel_rfl)) (by kernel_rfl) (by kernel_rfl) (by kernel_rfl) (Yf os _)) ?_
 ·match ds,hd with
  | [d1,d2,d3],_=>rfl
 ·intro W a ds ps hv hA hw hg
  obtain⟨b,c⟩:=Sb hA
  match a,b,ds,c,hA with
  | [v1,v2,v3],_,[d1,d2,d3],_,⟨p1,q1,h1,⟨p2,q2,h2,⟨p3,q3,h3,_,_⟩,_⟩,_⟩ =>
   obtain⟨h,d⟩:=hv 0 9 v1 rfl rfl
   obtain⟨i,e⟩:=hv 1 22 v2 rfl rfl
   obtain⟨k,f⟩:=hv 2 9 v3 rfl rfl
   obtain⟨m,rfl⟩:=Wd Brs d h1
   obtain⟨n,g⟩:=Ahr (Aop Brt (by kernel_rfl) (lZ5 (by kernel_rfl)) (by decide) (Ave Brs (by kernel_rfl))) Brt e h2 (Agl hw (j:=1) rfl rfl)
   obtain⟨p,rfl⟩:=Wd Brs f h3
   exact Akv hg NoRecv.nil g
theorem Agv:laidOutB Tryz.prog=true:=by kernel_rfl
theorem Agw:mapsRowed Tryz.prog=true:=by kernel_rfl
theorem Agx:(Rows.elderFilesRow.inPlace==Tryz.prog.inPlace (idF (.func 3)))=true:=by kernel_rfl
theorem Agy:(Rows.elderFilesRow.unfollowed==Tryz.prog.unfollowed (idF (.func 3)))=true:=by kernel_rfl
theorem Agz:(Rows.elderFilesRow.recurses==Tryz.prog.recurses (idF (.func 3)))=true:=by kernel_rfl
theorem Aha:(Rows.elderFilesRow.named==Tryz.prog.varsNamed (idF (.func 3)))=true:=by kernel_rfl
theorem Ahb:(Rows.elderFilesRow.plainKeys==Tryz.prog.plainKeys)=true:=by kernel_rfl
theorem Ahc:Tryz.prog.stopsHeard=true:=by kernel_rfl
theorem Ahd:Tryz.prog.mayEnter=true:=by kernel_rfl
theorem elderFiles_name:Tryz.prog.funcNamed "crocus/crocuslaw10.ElderFiles" = some 3:=by kernel_rfl
theorem Wj:joinedFacts Tryz.prog (idF (.func 3)) Tryz.f3 Rows.elderFilesSpec Rows.elderFilesRow=true:=by
 unfold joinedFacts
 rw[Agv,Agw,Agx,Agy,Agz,Aha,Ahb,Ahc,Ahd]
 kernel_rfl
theorem Adp:Rows.ElderFilesSaid :=
 OpenClaim.holds_of_wide_leaving 3 Tryz.f3 rfl rfl rfl rfl rfl rfl rfl ⟨rfl,rfl,rfl,rfl,rfl⟩ rfl rfl rfl rfl rfl elderFiles_name Tryz.func3 Wj
  (lZ3 (by kernel_rfl)) (by unfold Func.isWrapper;first|(rw[if_pos (by decide +kernel)];kernel_rfl)|(rw[if_neg (by decide +kernel)];exact⟨rfl,rfl⟩))
  (fun os a H enc _=>Wk os a H enc)
theorem elderFiles_holds:Rows.ElderFilesCardSaid :=
 Zm .later [.data,.data,.data,.data,.sentinel,.sentinel,.funcsDeep,.funcsDeep,.funcs,.data,.funcs,.data,.pinned] true (true,"c01632f961e1a4c54b285fdc16073769fbf40a9317185013ba076738ae046c28") true Adp (by kernel_rfl) elderFiles_row_tie rfl ⟨rfl,rfl⟩ (by kernel_rfl) rfl
  (fun f fn hf hfn=>by
   obtain rfl:f=3:=Option.some.inj (elderFiles_name.symm.trans hf) |>.symm
   obtain rfl:fn=Tryz.f3:=(Option.some.inj (Tryz.func3.symm.trans hfn)).symm
   exact⟨by kernel_rfl,fun j t ht=>by
    have a:t=9∨t=22:=by
     match j,ht with
     | 0,h=>exact .inl (Option.some.inj h).symm
     | 1,h=>exact .inr ((Option.some.inj h).symm)
     | 2,h=>exact .inl (Option.some.inj h).symm
    rcases a with rfl|rfl
    ·exact(show Tryz.prog.wantsStandIn 9=false by kernel_rfl)
    ·exact(show Tryz.prog.wantsStandIn 22=false by kernel_rfl)⟩)
  (by kernel_rfl)
end
end Go.Proofs.YtjdkajkimeainaaGreatDoor
