/- TopPatchedMatch: the knots of a sheet that hang together are the figures that chains of sheets lead to; true for every sheet. No condition. -/
import Derived.Test.YtnffcfhdnjbdbaaGreatDoorQ40
namespace Go.Proofs.YtnffcfhdnjbdbaaGreatDoor.c1
open Go.Lw Go.RowKit Go.ChangeShapes Go.WideShapes Go.ChangeAt
set_option maxRecDepth 100000 in
theorem lifted (os:Os) (started:os.Started) (H:Type) (enc:TypeId×Value->H) :
  ReturnsInHanded {} Tryz.checked os 3 .any (λw args=>(Rows.topPatchedMatchSpec.pre enc Tryz.prog Tryz.f3 [] false w args/\laidMetH Tryz.prog kz w)/\sizedMet enc Tryz.prog Tryz.f3 (OpenSpec.ofChange Rows.topPatchedMatchSpec) false w args) (Rows.topPatchedMatchSpec.post enc Tryz.prog Tryz.f3 false true false false):=by
 refine law_liftL (tb:=4) (laid:=kz) (λds hd=>by match ds,hd with | [d0],_=>rfl) rfl (by kernel_rfl) Tryz.underlying4 laidOut (by kernel_rfl) own started (by kernel_rfl) Tryz.func3
  (ChangeSpec.witness_shaped (enc:=enc) (C:=Tryz.checked) (os:=os) (X:=λw _=>laidMetH Tryz.prog kz w) false (World.laidAll Tryz.prog os kz) #[.agg #[.slice none 0 0,.int .i64 0]] 8 (World.laidAll_os _ _ _)
   (World.shaped_of_ZipB (by kernel_rfl) (by kernel_rfl)) (by kernel_rfl) (by kernel_rfl) (by kernel_rfl) (seat_laid os _)) ?_;intro W base args ds ps hval hA;rw[Tryz.params3]at hA hval;obtain⟨v0,vs0,d0,ds0,p0,q0,hargs,rfl,rfl,h0,r0⟩:=trodAll_cons hA;obtain⟨rfl,rfl,rfl⟩:=trodAll_nil r0;obtain rfl:args=#[v0]:=by cases args;simp_all
 obtain⟨s,k0⟩:=open_sheet (hval 0 24 v0 rfl rfl) h0;exact⟨[v0],rfl,M.top_f s _ v0 k0⟩
theorem over:Rows.topPatchedMatchRow.holds Tryz.pinned (OpenSpec.ofChange Rows.topPatchedMatchSpec):=
 OpenClaim.holds_of_wide 3 Tryz.f3 rfl rfl rfl rfl rfl rfl rfl ⟨rfl,rfl,rfl,rfl,rfl⟩ rfl rfl rfl rfl rfl zNamed Tryz.func3 zJoin zInst zWrap
  (λos started H enc _=>lifted os started H enc)
theorem proved:Rows.TopPatchedMatchCardSaid:=
 Claim7.holds_tied_plain_at .later [] [.data,.pinned] true (true,"08ded36494b620ac30ff35131ac963f95bd8458a1b3f90a730157ee4eaff14b1") false over (λ_ h=>by cases h) zText (λ_ h=>by cases h) topPatchedMatch_row_tie rfl ⟨rfl,rfl⟩ zMain rfl
  (λf fn hf hfn=>by
   obtain rfl:f=3:=Option.some.inj (zNamed.symm.trans hf) |>.symm;obtain rfl:fn=Tryz.f3:=(Option.some.inj (Tryz.func3.symm.trans hfn)).symm;exact⟨zLook,λj t ht=>by
    rw[Tryz.params3]at ht;have hm:t∈[24]:=by simpa using Array.mem_of_getElem? ht
    exact(show Tryz.prog.wantsStandIn t=false by simpa using List.all_eq_true.1 zStand t hm)⟩)
  zGoes
#print axioms proved
end Go.Proofs.YtnffcfhdnjbdbaaGreatDoor.c1
