/- TopClippedGrade: the sheets of the best cuts are stock and orders; all of them are spent for as much as the cuts are worth, and one more sheet is worth nothing; true for every ribbon and all kinds. No condition. -/
import Derived.Test.YtmdcedioddchfaaGreatDoorQ37
set_option linter.unusedVariables false
set_option linter.unusedSimpArgs false
set_option linter.unusedSectionVars false
set_option linter.unusedVariables false
namespace Go.Proofs.YtmdcedioddchfaaGreatDoor.c1
open Go.Lw Go.RowKit Go.ChangeShapes Go.WideShapes Go.ChangeAt
set_option maxRecDepth 100000 in
theorem lifted (os:Os) (started:os.Started) (H:Type) (enc:TypeId×Value→H) :
  ReturnsInHanded {} Tryz.checked os 3 .any (fun w args=>(Rows.topClippedGradeSpec.pre enc Tryz.prog Tryz.f3 [] false w args∧laidMetH Tryz.prog xg w)∧sizedMet enc Tryz.prog Tryz.f3 (OpenSpec.ofChange Rows.topClippedGradeSpec) false w args) (Rows.topClippedGradeSpec.post enc Tryz.prog Tryz.f3 false true false false):=by
 refine law_liftL (tb:=4) (laid:=xg) (fun ds hd=>by match ds,hd with | [d0,d1],_=>rfl) rfl (by kernel_rfl) Tryz.underlying4 laidOut (by kernel_rfl) own started (by kernel_rfl) Tryz.func3
  (ChangeSpec.witness_shaped (enc:=enc) (C:=Tryz.checked) (os:=os) (X:=fun w _=>laidMetH Tryz.prog xg w) false (World.laidAll Tryz.prog os xg) #[.agg #[.int .i64 0,.slice none 0 0],.slice none 0 0] 8 (World.laidAll_os _ _ _)
   (World.shaped_of_ZipB (by kernel_rfl) (by kernel_rfl)) (by kernel_rfl) (by kernel_rfl) (by kernel_rfl) (seat_laid os _)) ?_
 intro W base args ds ps hval hA
 rw[Tryz.params3]at hA hval
 obtain⟨v0,vs0,d0,ds0,p0,q0,hargs,rfl,rfl,h0,r0⟩:=trodAll_cons hA
 obtain⟨v1,vs1,d1,ds1,p1,q1,rfl,rfl,rfl,h1,r1⟩:=trodAll_cons r0
 obtain⟨rfl,rfl,rfl⟩:=trodAll_nil r1
 obtain rfl:args=#[v0,v1]:=by cases args; simp_all
 obtain⟨n,f,a0,c0,rfl,k0⟩:=open_ribbon (hval 0 24 v0 rfl rfl) h0
 obtain⟨l1,a1,c1,rfl,k1⟩:=rd_kinds (hval 1 25 v1 rfl rfl) h1
 exact⟨[C.rbv n a0 f c0,.slice a1 l1.length c1],rfl,D.top_f n a0 f c0 l1 _ _ k0 k1⟩
theorem over:Rows.topClippedGradeRow.holds Tryz.pinned (OpenSpec.ofChange Rows.topClippedGradeSpec):=
 OpenClaim.holds_of_wide 3 Tryz.f3 rfl rfl rfl rfl rfl rfl rfl ⟨rfl,rfl,rfl,rfl,rfl⟩ rfl rfl rfl rfl rfl zNamed Tryz.func3 zJoin zInst zWrap
  (fun os started H enc _=>lifted os started H enc)
theorem proved:Rows.TopClippedGradeCardSaid:=
 Claim7.holds_tied_plain_at .later [] [.pinned,.data] true (true,"c85c305bf4dfde18f612df8672bf9c551ed5e5f4f268eb1b73728f0bcbac9acb") false over (fun _ h=>by cases h) zText (fun _ h=>by cases h) topClippedGrade_row_tie rfl ⟨rfl,rfl⟩ zMain rfl
  (fun f fn hf hfn=>by
   obtain rfl:f=3:=Option.some.inj (zNamed.symm.trans hf) |>.symm
   obtain rfl:fn=Tryz.f3:=(Option.some.inj (Tryz.func3.symm.trans hfn)).symm
   exact⟨zLook,fun j t ht=>by
    rw[Tryz.params3]at ht
    have hm:t∈[24,25]:=by simpa using Array.mem_of_getElem? ht
    exact(show Tryz.prog.wantsStandIn t=false by simpa using List.all_eq_true.1 zStand t hm)⟩)
  zGoes
#print axioms proved
end Go.Proofs.YtmdcedioddchfaaGreatDoor.c1
