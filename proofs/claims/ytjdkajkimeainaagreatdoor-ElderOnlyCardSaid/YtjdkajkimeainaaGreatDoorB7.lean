/- Part 7 of what all laws of layer 8 need: a logic of programs that start goroutines, and what the functions yield. -/
import Derived.Test.YtjdkajkimeainaaGreatDoorB6
set_option linter.unusedVariables false
set_option linter.unusedSimpArgs false
set_option maxRecDepth 100000
set_option maxHeartbeats 4000000
namespace Go.Proofs.YtjdkajkimeainaaGreatDoor
section
open Go Go.WideShapes Go.ChangeShapes Go.RowKit Go.Conc
set_option maxRecDepth 100000
theorem Yl(os:Os)(started:os.Started)(H:Type)(enc:TypeId×Value→H):ReturnsInLeavingWide {} Tryz.checked os 5 .any (Anu H enc Rows.elderOnlySpec Tryz.f5) (Rows.elderOnlySpec.post enc Tryz.prog Tryz.f5 false true false false):=by
 refine Vp (r:=2) os started H enc Tryz.func5 rfl rfl (by kernel_rfl) (by decide) (fun ds hd=>?_)
  (ChangeSpec.witness_shaped (enc:=enc) (C:=Tryz.checked) (os:=os) (X:=fun w _=>laidMetH Tryz.prog laidLK w) false (doorK os) #[.string (ByteArray.mk #[])] 8 rfl (World.shaped_of_RefB (by kernel_rfl) (by kernel_rfl)) (by kernel_rfl) (by kernel_rfl) (by kernel_rfl) (Yf os _)) ?_
 ·match ds,hd with
  | [d1],_=>rfl
 ·intro W a ds ps hv hA hw hg
  obtain⟨b,c⟩:=Sb hA
  match a,b,ds,c,hA with
  | [v1],_,[d1],_,⟨p1,q1,h1,_,_⟩ =>
   obtain⟨e,d⟩:=hv 0 9 v1 rfl rfl
   obtain⟨f,rfl⟩:=Wd Brs d h1
   exact Aoe hg NoRecv.nil
theorem Alz:laidOutB Tryz.prog=true:=by kernel_rfl
theorem Ama:mapsRowed Tryz.prog=true:=by kernel_rfl
theorem Amb:(Rows.elderOnlyRow.inPlace==Tryz.prog.inPlace (idF (.func 5)))=true:=by kernel_rfl
theorem Amc:(Rows.elderOnlyRow.unfollowed==Tryz.prog.unfollowed (idF (.func 5)))=true:=by kernel_rfl
theorem Ame:(Rows.elderOnlyRow.recurses==Tryz.prog.recurses (idF (.func 5)))=true:=by kernel_rfl
theorem Amf:(Rows.elderOnlyRow.named==Tryz.prog.varsNamed (idF (.func 5)))=true:=by kernel_rfl
theorem Amg:(Rows.elderOnlyRow.plainKeys==Tryz.prog.plainKeys)=true:=by kernel_rfl
theorem Amh:Tryz.prog.stopsHeard=true:=by kernel_rfl
theorem Ami:Tryz.prog.mayEnter=true:=by kernel_rfl
theorem elderOnly_name:Tryz.prog.funcNamed "crocus/crocuslaw10.ElderOnly" = some 5:=by kernel_rfl
theorem Yk:joinedFacts Tryz.prog (idF (.func 5)) Tryz.f5 Rows.elderOnlySpec Rows.elderOnlyRow=true:=by
 unfold joinedFacts
 rw[Alz,Ama,Amb,Amc,Ame,Amf,Amg,Amh,Ami]
 kernel_rfl
theorem Ahf:Rows.ElderOnlySaid :=
 OpenClaim.holds_of_wide_leaving 5 Tryz.f5 rfl rfl rfl rfl rfl rfl rfl ⟨rfl,rfl,rfl,rfl,rfl⟩ rfl rfl rfl rfl rfl elderOnly_name Tryz.func5 Yk
  (lZ3 (by kernel_rfl)) (by unfold Func.isWrapper;first|(rw[if_pos (by decide +kernel)];kernel_rfl)|(rw[if_neg (by decide +kernel)];exact⟨rfl,rfl⟩))
  (fun os a H enc _=>Yl os a H enc)
theorem elderOnly_holds:Rows.ElderOnlyCardSaid :=
 Zm .later [.data,.data,.data,.data,.sentinel,.sentinel,.funcsDeep,.funcsDeep,.funcs,.data,.funcs,.data,.pinned] true (true,"c01632f961e1a4c54b285fdc16073769fbf40a9317185013ba076738ae046c28") true Ahf (by kernel_rfl) elderOnly_row_tie rfl ⟨rfl,rfl⟩ (by kernel_rfl) rfl
  (fun f fn hf hfn=>by
   obtain rfl:f=5:=Option.some.inj (elderOnly_name.symm.trans hf) |>.symm
   obtain rfl:fn=Tryz.f5:=(Option.some.inj (Tryz.func5.symm.trans hfn)).symm
   exact⟨by kernel_rfl,fun j t ht=>by
    have a:t=9:=by
     match j,ht with
     | 0,h=>exact(Option.some.inj h).symm
    rcases a with rfl
    ·exact(show Tryz.prog.wantsStandIn 9=false by kernel_rfl)⟩)
  (by kernel_rfl)
end
end Go.Proofs.YtjdkajkimeainaaGreatDoor
