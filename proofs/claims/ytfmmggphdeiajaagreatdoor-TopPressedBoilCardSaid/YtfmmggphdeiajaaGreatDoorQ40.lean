/- TopPressedBoil: turns of the press become trials of the boiler, and the opening whose panels fail explains them; true for every bed, row of panels and numbers. No condition. -/
import Derived.Test.YtfmmggphdeiajaaGreatDoorQ39
set_option linter.unusedVariables false
set_option linter.unusedSimpArgs false
set_option linter.unusedSectionVars false
set_option linter.unusedVariables false
namespace Go.Proofs.YtfmmggphdeiajaaGreatDoor.c1
open Go.Lw Go.Ps Go.RowKit Go.ChangeShapes Go.WideShapes Go.ChangeAt
set_option maxRecDepth 100000 in
theorem lifted (os:Os) (started:os.Started) (H:Type) (enc:TypeId×Value→H) :
  ReturnsInHanded {} Tryz.checked os 3 .any (fun w args=>(Rows.topPressedBoilSpec.pre enc Tryz.prog Tryz.f3 [] false w args∧laidMetH Tryz.prog kQ w)∧sizedMet enc Tryz.prog Tryz.f3 (OpenSpec.ofChange Rows.topPressedBoilSpec) false w args) (Rows.topPressedBoilSpec.post enc Tryz.prog Tryz.f3 false true false false):=by
 refine law_liftL (tb:=4) (laid:=kQ) (fun ds hd=>by match ds,hd with | [d0,d1,d2,d3],_=>rfl) rfl (by kernel_rfl) Tryz.underlying4 laidOut (by kernel_rfl) own started (by kernel_rfl) Tryz.func3
  (ChangeSpec.witness_shaped (enc:=enc) (C:=Tryz.checked) (os:=os) (X:=fun w _=>laidMetH Tryz.prog kQ w) false (World.laidAll Tryz.prog os kQ) #[.agg #[.int .i64 0,.slice none 0 0,.int .i64 0,.int .i64 0],.slice none 0 0,.slice none 0 0,.int .u8 0] 8 (World.laidAll_os _ _ _)
   (World.shaped_of_ZipB (by kernel_rfl) (by kernel_rfl)) (by kernel_rfl) (by kernel_rfl) (by kernel_rfl) (seat_laid os _)) ?_
 intro W base args ds ps hval hA
 rw[Tryz.params3]at hA hval
 obtain⟨v0,vs0,d0,ds0,p0,q0,hargs,rfl,rfl,h0,r0⟩:=trodAll_cons hA
 obtain⟨v1,vs1,d1,ds1,p1,q1,rfl,rfl,rfl,h1,r1⟩:=trodAll_cons r0
 obtain⟨v2,vs2,d2,ds2,p2,q2,rfl,rfl,rfl,h2,r2⟩:=trodAll_cons r1
 obtain⟨v3,vs3,d3,ds3,p3,q3,rfl,rfl,rfl,h3,r3⟩:=trodAll_cons r2
 obtain⟨rfl,rfl,rfl⟩:=trodAll_nil r3
 obtain rfl:args=#[v0,v1,v2,v3]:=by cases args; simp_all
 obtain⟨x0,a0,c0,rfl,k0⟩:=open_bed (hval 0 24 v0 rfl rfl) h0
 obtain⟨l1,a1,c1,rfl,k1⟩:=rd_panels (hval 1 25 v1 rfl rfl) h1
 obtain⟨l2,a2,c2,rfl,k2⟩:=rd_u8s (hval 2 26 v2 rfl rfl) h2
 obtain⟨x3,rfl,_,_,w3⟩:=open_int Tryz.underlying5 (hval 3 5 v3 rfl rfl) h3
 have b3:=bd_u8 w3
 exact⟨[bdv x0 a0 c0,.slice a1 l1.length c1,.slice a2 l2.length c2,.int .u8 x3],rfl,top_f Go.Ev.works_f x0 a0 c0 l1 l2 x3 b3 _ _ _ k0 k1 k2⟩
theorem over:Rows.topPressedBoilRow.holds Tryz.pinned (OpenSpec.ofChange Rows.topPressedBoilSpec):=
 OpenClaim.holds_of_wide 3 Tryz.f3 rfl rfl rfl rfl rfl rfl rfl ⟨rfl,rfl,rfl,rfl,rfl⟩ rfl rfl rfl rfl rfl zNamed Tryz.func3 zJoin zInst zWrap
  (fun os started H enc _=>lifted os started H enc)
theorem proved:Rows.TopPressedBoilCardSaid:=
 Claim7.holds_tied_plain_at .later [] [.pinned,.data] true (true,"462175c55c907d5730da30248d005355cfaab3b5991281594385fb901d386600") false over (fun _ h=>by cases h) zText (fun _ h=>by cases h) topPressedBoil_row_tie rfl ⟨rfl,rfl⟩ zMain rfl
  (fun f fn hf hfn=>by
   obtain rfl:f=3:=Option.some.inj (zNamed.symm.trans hf) |>.symm
   obtain rfl:fn=Tryz.f3:=(Option.some.inj (Tryz.func3.symm.trans hfn)).symm
   exact⟨zLook,fun j t ht=>by
    rw[Tryz.params3]at ht
    have hm:t∈[24,25,26,5]:=by simpa using Array.mem_of_getElem? ht
    exact(show Tryz.prog.wantsStandIn t=false by simpa using List.all_eq_true.1 zStand t hm)⟩)
  zGoes
#print axioms proved
end Go.Proofs.YtfmmggphdeiajaaGreatDoor.c1
