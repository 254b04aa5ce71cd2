/- Chapter 43: the example, by reckoning. No condition beyond those that each theorem states. -/
import Derived.Test.YtjbhhdocbejccaaV1
namespace Go.Proofs.Ytjbhhdocbejccaa.Pl
open Go Go.RowKit Go.Proofs.Ytjbhhdocbejccaa.Am
open Go.Proofs.Ytjbhhdocbejccaa.Am renaming ex_nil → κa,ex_cons → κb,exK_some → κc,st_n → κd,st_g → κe,gd_b → κf,gd_u → κg,rn_v → κh,rn_m → κi,rn_s → κj,rn_a → κk,think → κl,prep → κm,mkDsts → κn,ev → κp,upd → κq,init → κr,forgetBox → κu,pvs → κx,fillX → κy,chunks → κz,binV → κa1,xints → κb1,ldX → κc1,baseOk → κe1,fg_p → κf1,fg_tk → κg1,mkG → κh1,tab → κj1,c3 → κa3
open Go.Proofs.Ytjbhhdocbejccaa.Am.St renaming clear → κo,put → κt,of → κk1
open Go.Proofs.Ytjbhhdocbejccaa.Am.PV renaming av → κs
open Go.Proofs.Ytjbhhdocbejccaa.Am.AV renaming cells → κv,pv → κw,plain → κd1
open Go.Proofs.Ytjbhhdocbejccaa.Am.Sig renaming spec → κi1
open List renaming getElem?_cons_zero → κl1,getElem?_cons_succ → κm1,getElem?_nil → κn1,map_cons → κu1,map_nil → κv1,drop_succ_cons → κw1,drop_zero → κx1,take_succ_cons → κy1,take_zero → κz1,length_cons → κa2,length_nil → κb2,length_append → κc2,cons_append → κd2,nil_append → κe2,append_nil → κf2
open Option renaming map_some → κo1,map_none → κp1,bind_some → κq1,isSome_some → κr1,isSome_none → κs1
open Nat renaming reduceEqDiff → κt1,reduceAdd → κg2,reduceMul → κh2,reduceLeDiff → κi2,reduceBEq → κj2,zero_le → κk2,le_refl → κl2,zero_add → κm2,add_zero → κn2
open Bool renaming not_true → κo2,not_false → κp2,false_eq_true → κq2,true_eq_false → κc3
open Int renaming reduceBEq → κr2,reduceBNe → κs2,reduceLT → κt2,reduceLE → κu2,reduceAdd → κv2,reduceToNat → κw2,toNat_zero → κx2,reduceEq → κy2,toNat_natCast → κz2,le_refl → κb3
def tb0 : List (Row Try.prog [60]) := [⟨93,isa_class.m,_,1,_,Try.func93,isa_class.tr,rfl⟩,
  ⟨91,isa_inner.m,_,1,_,Try.func91,isa_inner.tr,rfl⟩,
  ⟨90,isa_immediate.m,_,2,_,Try.func90,isa_immediate.tr,rfl⟩,
  ⟨89,isa_registers.m,_,1,_,Try.func89,isa_registers.tr,rfl⟩,
  ⟨88,isa_Operands.m,_,1,_,Try.func88,isa_Operands.tr,rfl⟩,
  ⟨87,isa_Valid.m,_,1,_,Try.func87,isa_Valid.tr,rfl⟩,
  ⟨86,r22_loops.m,_,1,_,Try.func86,r22_loops.tr,rfl⟩,
  ⟨85,r22_Operands.m,_,1,_,Try.func85,r22_Operands.tr,rfl⟩]
def tb1 : List (Row Try.prog [60]) := [⟨84,buf_width.m,_,1,_,Try.func84,buf_width.tr,rfl⟩,
  ⟨83,isa_step.m,_,3,_,Try.func83,isa_step.tr,rfl⟩,
  ⟨82,isa_operands.m,_,2,_,Try.func82,isa_operands.tr,rfl⟩,
  ⟨81,isa_within.m,_,3,_,Try.func81,isa_within.tr,rfl⟩,
  ⟨80,r09_Size.m,_,1,_,Try.func80,r09_Size.tr,rfl⟩,
  ⟨79,r10_sized.m,_,1,_,Try.func79,r10_sized.tr,rfl⟩,
  ⟨78,r09_Valid.m,_,1,_,Try.func78,r09_Valid.tr,rfl⟩,
  ⟨77,tx_Size.m,_,1,_,Try.func77,tx_Size.tr,rfl⟩]
def tb2 : List (Row Try.prog [60]) := [⟨76,img_sized.m,_,1,_,Try.func76,img_sized.tr,rfl⟩,
  ⟨75,tx_Valid.m,_,1,_,Try.func75,tx_Valid.tr,rfl⟩,
  ⟨74,r39_ValidOp.m,_,1,_,Try.func74,r39_ValidOp.tr,rfl⟩,
  ⟨73,r22_next.m,_,3,_,Try.func73,r22_next.tr,rfl⟩,
  ⟨72,r22_outside.m,_,2,_,Try.func72,r22_outside.tr,rfl⟩,
  ⟨71,r22_unused.m,_,1,_,Try.func71,r22_unused.tr,rfl⟩,
  ⟨70,r22_Valid.m,_,1,_,Try.func70,r22_Valid.tr,rfl⟩,
  ⟨69,st_ValidOp.m,_,1,_,Try.func69,st_ValidOp.tr,rfl⟩]
def tb3 : List (Row Try.prog [60]) := [⟨68,buf_Size.m,_,1,_,Try.func68,buf_Size.tr,rfl⟩,
  ⟨67,isa_Validate.m,_,1,_,Try.func67,isa_Validate.tr,rfl⟩,
  ⟨66,r42_most.m,_,1,_,Try.func66,r42_most.tr,rfl⟩,
  ⟨65,r38_Max.m,_,1,_,Try.func65,r38_Max.tr,rfl⟩,
  ⟨64,r42_limited.m,_,2,_,Try.func64,r42_limited.tr,rfl⟩,
  ⟨63,r10_Valid.m,_,1,_,Try.func63,r10_Valid.tr,rfl⟩,
  ⟨62,r38_Bits.m,_,1,_,Try.func62,r38_Bits.tr,rfl⟩,
  ⟨61,tg_mostStencil.m,_,1,_,Try.func61,tg_mostStencil.tr,rfl⟩]
def tb4 : List (Row Try.prog [60]) := [⟨60,depth_Max.m,_,1,_,Try.func60,depth_Max.tr,rfl⟩,
  ⟨59,img_Valid.m,_,1,_,Try.func59,img_Valid.tr,rfl⟩,
  ⟨58,r40_ValidOp.m,_,1,_,Try.func58,r40_ValidOp.tr,rfl⟩,
  ⟨57,r40_ValidFactor.m,_,1,_,Try.func57,r40_ValidFactor.tr,rfl⟩,
  ⟨56,r39_octet.m,_,1,_,Try.func56,r39_octet.tr,rfl⟩,
  ⟨55,r39_validFace.m,_,1,_,Try.func55,r39_validFace.tr,rfl⟩,
  ⟨54,r38_ValidCompare.m,_,1,_,Try.func54,r38_ValidCompare.tr,rfl⟩,
  ⟨53,r32_within.m,_,3,_,Try.func53,r32_within.tr,rfl⟩]
def tb5 : List (Row Try.prog [60]) := [⟨52,r43_last.m,_,1,_,Try.func52,r43_last.tr,rfl⟩,
  ⟨51,r14_Components.m,_,1,_,Try.func51,r14_Components.tr,rfl⟩,
  ⟨50,r14_ValidAttribute.m,_,1,_,Try.func50,r14_ValidAttribute.tr,rfl⟩,
  ⟨49,r22_Validate.m,_,1,_,Try.func49,r22_Validate.tr,rfl⟩,
  ⟨48,bl_ValidOp.m,_,1,_,Try.func48,bl_ValidOp.tr,rfl⟩,
  ⟨47,bl_ValidFactor.m,_,1,_,Try.func47,bl_ValidFactor.tr,rfl⟩,
  ⟨46,st_inByte.m,_,1,_,Try.func46,st_inByte.tr,rfl⟩,
  ⟨45,st_validFace.m,_,1,_,Try.func45,st_validFace.tr,rfl⟩]
def tb6 : List (Row Try.prog [60]) := [⟨44,depth_ValidCompare.m,_,1,_,Try.func44,depth_ValidCompare.tr,rfl⟩,
  ⟨43,vp_Valid1.m,_,2,_,Try.func43,vp_Valid1.tr,rfl⟩,
  ⟨42,buf_Components.m,_,1,_,Try.func42,buf_Components.tr,rfl⟩,
  ⟨41,buf_ValidAttribute.m,_,1,_,Try.func41,buf_ValidAttribute.tr,rfl⟩,
  ⟨40,pl_shader.m,_,2,_,Try.func40,pl_shader.tr,rfl⟩,
  ⟨39,r42_Valid.m,_,1,_,Try.func39,r42_Valid.tr,rfl⟩,
  ⟨38,tg_Valid.m,_,1,_,Try.func38,tg_Valid.tr,rfl⟩,
  ⟨37,isa_Equal.m,_,2,_,Try.func37,isa_Equal.tr,rfl⟩]
def tb7 : List (Row Try.prog [60]) := [⟨36,pl_Varyings.m,_,1,_,Try.func36,pl_Varyings.tr,rfl⟩,
  ⟨35,r35_ValidSamples.m,_,1,_,Try.func35,r35_ValidSamples.tr,rfl⟩,
  ⟨34,r40_Valid.m,_,1,_,Try.func34,r40_Valid.tr,rfl⟩,
  ⟨33,r39_Valid.m,_,1,_,Try.func33,r39_Valid.tr,rfl⟩,
  ⟨32,r38_ValidState.m,_,1,_,Try.func32,r38_ValidState.tr,rfl⟩,
  ⟨31,r32_Valid.m,_,1,_,Try.func31,r32_Valid.tr,rfl⟩,
  ⟨30,r43_Varyings.m,_,1,_,Try.func30,r43_Varyings.tr,rfl⟩,
  ⟨29,r15_Components.m,_,1,_,Try.func29,r15_Components.tr,rfl⟩]
def tb8 : List (Row Try.prog [60]) := [⟨28,r15_Valid.m,_,1,_,Try.func28,r15_Valid.tr,rfl⟩,
  ⟨27,r22_Equal.m,_,2,_,Try.func27,r22_Equal.tr,rfl⟩,
  ⟨26,r43_stage.m,_,2,_,Try.func26,r43_stage.tr,rfl⟩,
  ⟨25,cov_ValidSamples.m,_,1,_,Try.func25,cov_ValidSamples.tr,rfl⟩,
  ⟨24,depth_Bits.m,_,1,_,Try.func24,depth_Bits.tr,rfl⟩,
  ⟨23,bl_Valid.m,_,1,_,Try.func23,bl_Valid.tr,rfl⟩,
  ⟨22,st_Valid.m,_,1,_,Try.func22,st_Valid.tr,rfl⟩,
  ⟨21,depth_ValidState.m,_,1,_,Try.func21,depth_ValidState.tr,rfl⟩]
def tb9 : List (Row Try.prog [60]) := [⟨20,vp_Valid.m,_,1,_,Try.func20,vp_Valid.tr,rfl⟩,
  ⟨19,pl_linked.m,_,1,_,Try.func19,pl_linked.tr,rfl⟩,
  ⟨18,fetch_Components.m,_,1,_,Try.func18,fetch_Components.tr,rfl⟩,
  ⟨17,fetch_Valid.m,_,1,_,Try.func17,fetch_Valid.tr,rfl⟩,
  ⟨16,pl_shaders.m,_,1,_,Try.func16,pl_shaders.tr,rfl⟩,
  ⟨15,r43_Matches.m,_,2,_,Try.func15,r43_Matches.tr,rfl⟩,
  ⟨14,pl_Matches.m,_,2,_,Try.func14,pl_Matches.tr,rfl⟩,
  ⟨13,pl_Equal.m,_,2,_,Try.func13,pl_Equal.tr,rfl⟩]
def tb10 : List (Row Try.prog [60]) := [⟨12,r43_Default.m,_,0,_,Try.func12,r43_Default.tr,rfl⟩,
  ⟨11,r43_Equal.m,_,2,_,Try.func11,r43_Equal.tr,rfl⟩,
  ⟨10,pl_Default.m,_,0,_,Try.func10,pl_Default.tr,rfl⟩,
  ⟨9,example.m,_,0,_,Try.func9,example.tr,rfl⟩,
  ⟨8,r43_Validate.m,_,1,_,Try.func8,r43_Validate.tr,rfl⟩,
  ⟨7,pl_Validate.m,_,1,_,Try.func7,pl_Validate.tr,rfl⟩,
  ⟨6,PipelineMatches.m,_,2,_,Try.func6,PipelineMatches.tr,rfl⟩,
  ⟨5,PipelineDefault.m,_,1,_,Try.func5,PipelineDefault.tr,rfl⟩]
def tb11 : List (Row Try.prog [60]) := [⟨4,PipelineErrors.m,_,2,_,Try.func4,PipelineErrors.tr,rfl⟩,
  ⟨3,PipelineValid.m,_,1,_,Try.func3,PipelineValid.tr,rfl⟩]
def tb : List (Row Try.prog [60]) := tb0 ++ tb1 ++ tb2 ++ tb3 ++ tb4 ++ tb5 ++ tb6 ++ tb7 ++ tb8 ++ tb9 ++ tb10 ++ tb11
set_option maxRecDepth 100000
theorem example_ev : evalF tb 300 30 9 [] = some (.c (.p (.bool true))) := by kernel_rfl
theorem example_ok : CA Try.prog 9 [] (rBool true) := evalF_ok hE tb 300 30 9 [] _ example_ev
end Go.Proofs.Ytjbhhdocbejccaa.Pl
