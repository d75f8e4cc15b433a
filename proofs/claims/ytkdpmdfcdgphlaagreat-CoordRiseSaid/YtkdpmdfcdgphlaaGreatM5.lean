/- Part of this claim's proof. Conditions: as its theorems say. -/
import Derived.Shelf.Spec.SlicesGrow
import Derived.Shelf.SlIterI.Nil
import Derived.Shelf.SlIter.Nil
import Derived.Shelf.SortM.Plain
import Derived.Shelf.SortM.SortNone
import Derived.Ground.GgzProg
import Derived.Ground.SlgmProg
import Derived.Maps.OwnSet
import Derived.Sort.EveryDepth
import Derived.Sort.KeysCollected
import Derived.Lib.SlKeysI
import Derived.Shelf.Bodies2
import Derived.Test.YtkdpmdfcdgphlaaGreatM4
set_option linter.all false
set_option maxHeartbeats 2000000
set_option maxRecDepth 100000
namespace Go.Proofs
open Go.Shelf
def Tryz.keysI_ren:Go.Shelf.Ren:=⟨fun|7=>166|10=>248|n=>n,fun|23=>224|26=>3|3=>4|28=>233|0=>0|27=>232|33=>78|4=>4|n=>n,fun|n=>n⟩
theorem Tryz.keysI:Go.Proofs.SlLaysZI.n7 Tryz.prog Tryz.keysI_ren:={
 mixed:=by kernel_rfl
 f7:=⟨Tryz.f166.name,by decide,Tryz.func166.trans (congrArg some (by kernel_rfl))⟩
 f10:=⟨Tryz.f248.name,by decide,Tryz.func248.trans (congrArg some (by kernel_rfl))⟩
 t0:=Tryz.underlying0
 a0:=Tryz.isAgg0
 z0:=Tryz.sizeOf0
 v0:=Tryz.zeroValue0
 t4:=Tryz.underlying4
 a4:=Tryz.isAgg4
 z4:=Tryz.sizeOf4
 v4:=Tryz.zeroValue4
 t23:=Tryz.underlying224
 a23:=Tryz.isAgg224
 z23:=Tryz.sizeOf224
 v23:=Tryz.zeroValue224
 t26:=Tryz.underlying3
 a26:=Tryz.isAgg3
 z26:=Tryz.sizeOf3
 v26:=Tryz.zeroValue3
 t27:=Tryz.underlying232
 a27:=Tryz.isAgg232
 z27:=Tryz.sizeOf232
 v27:=Tryz.zeroValue232
 t28:=Tryz.underlying233
 a28:=Tryz.isAgg233
 z28:=Tryz.sizeOf233
 v28:=Tryz.zeroValue233
 t33:=Tryz.underlying78
 a33:=Tryz.isAgg78
 z33:=Tryz.sizeOf78
 v33:=Tryz.zeroValue78 }
def Tryz.sortedI_ren:Go.Shelf.Ren:=⟨fun|6=>165|8=>246|9=>247|11=>327|13=>290|12=>328|23=>355|24=>356|14=>387|15=>388|16=>389|17=>390|18=>391|19=>392|20=>393|21=>394|22=>395|25=>446|26=>402|27=>403|28=>447|29=>448|30=>449|31=>464|n=>n,fun|26=>3|28=>233|24=>67|0=>0|3=>3|37=>340|48=>239|50=>304|4=>4|40=>380|39=>379|45=>253|5=>5|9=>9|51=>412|55=>416|57=>458|58=>459|33=>78|n=>n,fun|n=>n⟩
theorem Tryz.sortedI:Go.Proofs.SlLaysZI.n6 Tryz.prog Tryz.sortedI_ren:={
 mixed:=by kernel_rfl
 f6:=⟨Tryz.f165.name,by decide,Tryz.func165.trans (congrArg some (by kernel_rfl))⟩
 f8:=⟨Tryz.f246.name,by decide,Tryz.func246.trans (congrArg some (by kernel_rfl))⟩
 f11:=⟨Tryz.f327.name,by decide,Tryz.func327.trans (congrArg some (by kernel_rfl))⟩
 t0:=Tryz.underlying0
 a0:=Tryz.isAgg0
 z0:=Tryz.sizeOf0
 v0:=Tryz.zeroValue0
 t24:=Tryz.underlying67
 a24:=Tryz.isAgg67
 z24:=Tryz.sizeOf67
 v24:=Tryz.zeroValue67
 t26:=Tryz.underlying3
 a26:=Tryz.isAgg3
 z26:=Tryz.sizeOf3
 v26:=Tryz.zeroValue3
 t28:=Tryz.underlying233
 a28:=Tryz.isAgg233
 z28:=Tryz.sizeOf233
 v28:=Tryz.zeroValue233
 i26:=by kernel_rfl }
def Tryz.sortI_ren:Go.Shelf.Ren:=⟨fun|5=>247|8=>290|7=>328|19=>355|20=>356|10=>387|11=>388|12=>389|13=>390|14=>391|15=>392|16=>393|17=>394|18=>395|30=>446|31=>402|32=>403|33=>447|34=>448|35=>449|40=>464|n=>n,fun|23=>67|25=>3|3=>3|32=>340|22=>67|0=>0|44=>239|46=>304|4=>4|36=>380|35=>379|41=>253|5=>5|9=>9|53=>412|57=>416|63=>458|64=>459|n=>n,fun|n=>n⟩
theorem Tryz.sortI:Go.Proofs.SlLaysM.n5 Tryz.prog Tryz.sortI_ren:={
 mixed:=by kernel_rfl
 f5:=⟨Tryz.f247.name,by decide,Tryz.func247.trans (congrArg some (by kernel_rfl))⟩
 f7:=⟨Tryz.f328.name,by decide,Tryz.func328.trans (congrArg some (by kernel_rfl))⟩
 f8:=Tryz.func290.trans (congrArg some (by kernel_rfl))
 f10:=⟨Tryz.f387.name,by decide,Tryz.func387.trans (congrArg some (by kernel_rfl))⟩
 f11:=⟨Tryz.f388.name,by decide,Tryz.func388.trans (congrArg some (by kernel_rfl))⟩
 f12:=⟨Tryz.f389.name,by decide,Tryz.func389.trans (congrArg some (by kernel_rfl))⟩
 f13:=⟨Tryz.f390.name,by decide,Tryz.func390.trans (congrArg some (by kernel_rfl))⟩
 f14:=⟨Tryz.f391.name,by decide,Tryz.func391.trans (congrArg some (by kernel_rfl))⟩
 f15:=⟨Tryz.f392.name,by decide,Tryz.func392.trans (congrArg some (by kernel_rfl))⟩
 f16:=⟨Tryz.f393.name,by decide,Tryz.func393.trans (congrArg some (by kernel_rfl))⟩
 f17:=⟨Tryz.f394.name,by decide,Tryz.func394.trans (congrArg some (by kernel_rfl))⟩
 f18:=⟨Tryz.f395.name,by decide,Tryz.func395.trans (congrArg some (by kernel_rfl))⟩
 f19:=Tryz.func355.trans (congrArg some (by kernel_rfl))
 f20:=Tryz.func356.trans (congrArg some (by kernel_rfl))
 f30:=⟨Tryz.f446.name,by decide,Tryz.func446.trans (congrArg some (by kernel_rfl))⟩
 f31:=Tryz.func402.trans (congrArg some (by kernel_rfl))
 f32:=Tryz.func403.trans (congrArg some (by kernel_rfl))
 f33:=⟨Tryz.f447.name,by decide,Tryz.func447.trans (congrArg some (by kernel_rfl))⟩
 f34:=⟨Tryz.f448.name,by decide,Tryz.func448.trans (congrArg some (by kernel_rfl))⟩
 f35:=⟨Tryz.f449.name,by decide,Tryz.func449.trans (congrArg some (by kernel_rfl))⟩
 f40:=⟨Tryz.f464.name,by decide,Tryz.func464.trans (congrArg some (by kernel_rfl))⟩
 t0:=Tryz.underlying0
 a0:=Tryz.isAgg0
 z0:=Tryz.sizeOf0
 v0:=Tryz.zeroValue0
 t3:=Tryz.underlying3
 a3:=Tryz.isAgg3
 z3:=Tryz.sizeOf3
 v3:=Tryz.zeroValue3
 t4:=Tryz.underlying4
 a4:=Tryz.isAgg4
 z4:=Tryz.sizeOf4
 v4:=Tryz.zeroValue4
 t5:=Tryz.underlying5
 a5:=Tryz.isAgg5
 z5:=Tryz.sizeOf5
 v5:=Tryz.zeroValue5
 t9:=Tryz.underlying9
 a9:=Tryz.isAgg9
 z9:=Tryz.sizeOf9
 v9:=Tryz.zeroValue9
 t22:=Tryz.underlying67
 a22:=Tryz.isAgg67
 z22:=Tryz.sizeOf67
 v22:=Tryz.zeroValue67
 t23:=Tryz.underlying67
 a23:=Tryz.isAgg67
 z23:=Tryz.sizeOf67
 v23:=Tryz.zeroValue67
 t25:=Tryz.underlying3
 a25:=Tryz.isAgg3
 z25:=Tryz.sizeOf3
 v25:=Tryz.zeroValue3
 t32:=Tryz.underlying340
 a32:=Tryz.isAgg340
 z32:=Tryz.sizeOf340
 v32:=Tryz.zeroValue340
 t35:=Tryz.underlying379
 a35:=Tryz.isAgg379
 z35:=Tryz.sizeOf379
 v35:=Tryz.zeroValue379
 t36:=Tryz.underlying380
 a36:=Tryz.isAgg380
 z36:=Tryz.sizeOf380
 v36:=Tryz.zeroValue380
 t41:=Tryz.underlying253
 a41:=Tryz.isAgg253
 z41:=Tryz.sizeOf253
 v41:=Tryz.zeroValue253
 t44:=Tryz.underlying239
 a44:=Tryz.isAgg239
 z44:=Tryz.sizeOf239
 v44:=Tryz.zeroValue239
 t46:=Tryz.underlying304
 a46:=Tryz.isAgg304
 z46:=Tryz.sizeOf304
 v46:=Tryz.zeroValue304
 t53:=Tryz.underlying412
 a53:=Tryz.isAgg412
 z53:=Tryz.sizeOf412
 v53:=Tryz.zeroValue412
 t57:=Tryz.underlying416
 a57:=Tryz.isAgg416
 z57:=Tryz.sizeOf416
 v57:=Tryz.zeroValue416
 t63:=Tryz.underlying458
 a63:=Tryz.isAgg458
 z63:=Tryz.sizeOf458
 v63:=Tryz.zeroValue458
 t64:=Tryz.underlying459
 a64:=Tryz.isAgg459
 z64:=Tryz.sizeOf459
 v64:=Tryz.zeroValue459 }
def Tryz.keysL_ren:Go.Shelf.Ren:=⟨fun|7=>210|10=>299|n=>n,fun|23=>272|26=>2|3=>3|28=>270|0=>0|27=>269|33=>28|4=>4|n=>n,fun|n=>n⟩
theorem Tryz.keysL:Go.Proofs.SlLaysZI.n7 Tryz.prog Tryz.keysL_ren:={
 mixed:=by kernel_rfl
 f7:=⟨Tryz.f210.name,by decide,Tryz.func210.trans (congrArg some (by kernel_rfl))⟩
 f10:=⟨Tryz.f299.name,by decide,Tryz.func299.trans (congrArg some (by kernel_rfl))⟩
 t0:=Tryz.underlying0
 a0:=Tryz.isAgg0
 z0:=Tryz.sizeOf0
 v0:=Tryz.zeroValue0
 t4:=Tryz.underlying4
 a4:=Tryz.isAgg4
 z4:=Tryz.sizeOf4
 v4:=Tryz.zeroValue4
 t23:=Tryz.underlying272
 a23:=Tryz.isAgg272
 z23:=Tryz.sizeOf272
 v23:=Tryz.zeroValue272
 t26:=Tryz.underlying2
 a26:=Tryz.isAgg2
 z26:=Tryz.sizeOf2
 v26:=Tryz.zeroValue2
 t27:=Tryz.underlying269
 a27:=Tryz.isAgg269
 z27:=Tryz.sizeOf269
 v27:=Tryz.zeroValue269
 t28:=Tryz.underlying270
 a28:=Tryz.isAgg270
 z28:=Tryz.sizeOf270
 v28:=Tryz.zeroValue270
 t33:=Tryz.underlying28
 a33:=Tryz.isAgg28
 z33:=Tryz.sizeOf28
 v33:=Tryz.zeroValue28 }
def Tryz.sortedL_ren:Go.Shelf.Ren:=⟨fun|6=>209|8=>298|9=>191|11=>366|13=>290|12=>289|23=>355|24=>356|14=>346|15=>347|16=>348|17=>349|18=>350|19=>351|20=>352|21=>353|22=>354|25=>401|26=>402|27=>403|28=>404|29=>405|30=>243|31=>453|n=>n,fun|26=>2|28=>270|24=>105|0=>0|3=>3|37=>340|48=>239|50=>304|4=>4|40=>380|39=>379|45=>253|5=>5|9=>9|51=>412|55=>416|57=>458|58=>459|33=>28|n=>n,fun|n=>n⟩
theorem Tryz.sortedL:Go.Proofs.SlLaysZI.n6 Tryz.prog Tryz.sortedL_ren:={
 mixed:=by kernel_rfl
 f6:=⟨Tryz.f209.name,by decide,Tryz.func209.trans (congrArg some (by kernel_rfl))⟩
 f8:=⟨Tryz.f298.name,by decide,Tryz.func298.trans (congrArg some (by kernel_rfl))⟩
 f11:=⟨Tryz.f366.name,by decide,Tryz.func366.trans (congrArg some (by kernel_rfl))⟩
 t0:=Tryz.underlying0
 a0:=Tryz.isAgg0
 z0:=Tryz.sizeOf0
 v0:=Tryz.zeroValue0
 t24:=Tryz.underlying105
 a24:=Tryz.isAgg105
 z24:=Tryz.sizeOf105
 v24:=Tryz.zeroValue105
 t26:=Tryz.underlying2
 a26:=Tryz.isAgg2
 z26:=Tryz.sizeOf2
 v26:=Tryz.zeroValue2
 t28:=Tryz.underlying270
 a28:=Tryz.isAgg270
 z28:=Tryz.sizeOf270
 v28:=Tryz.zeroValue270
 i26:=by kernel_rfl }
def Tryz.sortL_ren:Go.Shelf.Ren:=⟨fun|5=>191|8=>290|7=>289|19=>355|20=>356|10=>346|11=>347|12=>348|13=>349|14=>350|15=>351|16=>352|17=>353|18=>354|30=>401|31=>402|32=>403|33=>404|34=>405|35=>243|40=>453|n=>n,fun|23=>105|25=>2|3=>3|32=>340|22=>105|0=>0|44=>239|46=>304|4=>4|36=>380|35=>379|41=>253|5=>5|9=>9|53=>412|57=>416|63=>458|64=>459|n=>n,fun|n=>n⟩
theorem Tryz.sortL:Go.Proofs.SlLaysM.n5 Tryz.prog Tryz.sortL_ren:={
 mixed:=by kernel_rfl
 f5:=⟨Tryz.f191.name,by decide,Tryz.func191.trans (congrArg some (by kernel_rfl))⟩
 f7:=⟨Tryz.f289.name,by decide,Tryz.func289.trans (congrArg some (by kernel_rfl))⟩
 f8:=Tryz.func290.trans (congrArg some (by kernel_rfl))
 f10:=⟨Tryz.f346.name,by decide,Tryz.func346.trans (congrArg some (by kernel_rfl))⟩
 f11:=⟨Tryz.f347.name,by decide,Tryz.func347.trans (congrArg some (by kernel_rfl))⟩
 f12:=⟨Tryz.f348.name,by decide,Tryz.func348.trans (congrArg some (by kernel_rfl))⟩
 f13:=⟨Tryz.f349.name,by decide,Tryz.func349.trans (congrArg some (by kernel_rfl))⟩
 f14:=⟨Tryz.f350.name,by decide,Tryz.func350.trans (congrArg some (by kernel_rfl))⟩
 f15:=⟨Tryz.f351.name,by decide,Tryz.func351.trans (congrArg some (by kernel_rfl))⟩
 f16:=⟨Tryz.f352.name,by decide,Tryz.func352.trans (congrArg some (by kernel_rfl))⟩
 f17:=⟨Tryz.f353.name,by decide,Tryz.func353.trans (congrArg some (by kernel_rfl))⟩
 f18:=⟨Tryz.f354.name,by decide,Tryz.func354.trans (congrArg some (by kernel_rfl))⟩
 f19:=Tryz.func355.trans (congrArg some (by kernel_rfl))
 f20:=Tryz.func356.trans (congrArg some (by kernel_rfl))
 f30:=⟨Tryz.f401.name,by decide,Tryz.func401.trans (congrArg some (by kernel_rfl))⟩
 f31:=Tryz.func402.trans (congrArg some (by kernel_rfl))
 f32:=Tryz.func403.trans (congrArg some (by kernel_rfl))
 f33:=⟨Tryz.f404.name,by decide,Tryz.func404.trans (congrArg some (by kernel_rfl))⟩
 f34:=⟨Tryz.f405.name,by decide,Tryz.func405.trans (congrArg some (by kernel_rfl))⟩
 f35:=⟨Tryz.f243.name,by decide,Tryz.func243.trans (congrArg some (by kernel_rfl))⟩
 f40:=⟨Tryz.f453.name,by decide,Tryz.func453.trans (congrArg some (by kernel_rfl))⟩
 t0:=Tryz.underlying0
 a0:=Tryz.isAgg0
 z0:=Tryz.sizeOf0
 v0:=Tryz.zeroValue0
 t3:=Tryz.underlying3
 a3:=Tryz.isAgg3
 z3:=Tryz.sizeOf3
 v3:=Tryz.zeroValue3
 t4:=Tryz.underlying4
 a4:=Tryz.isAgg4
 z4:=Tryz.sizeOf4
 v4:=Tryz.zeroValue4
 t5:=Tryz.underlying5
 a5:=Tryz.isAgg5
 z5:=Tryz.sizeOf5
 v5:=Tryz.zeroValue5
 t9:=Tryz.underlying9
 a9:=Tryz.isAgg9
 z9:=Tryz.sizeOf9
 v9:=Tryz.zeroValue9
 t22:=Tryz.underlying105
 a22:=Tryz.isAgg105
 z22:=Tryz.sizeOf105
 v22:=Tryz.zeroValue105
 t23:=Tryz.underlying105
 a23:=Tryz.isAgg105
 z23:=Tryz.sizeOf105
 v23:=Tryz.zeroValue105
 t25:=Tryz.underlying2
 a25:=Tryz.isAgg2
 z25:=Tryz.sizeOf2
 v25:=Tryz.zeroValue2
 t32:=Tryz.underlying340
 a32:=Tryz.isAgg340
 z32:=Tryz.sizeOf340
 v32:=Tryz.zeroValue340
 t35:=Tryz.underlying379
 a35:=Tryz.isAgg379
 z35:=Tryz.sizeOf379
 v35:=Tryz.zeroValue379
 t36:=Tryz.underlying380
 a36:=Tryz.isAgg380
 z36:=Tryz.sizeOf380
 v36:=Tryz.zeroValue380
 t41:=Tryz.underlying253
 a41:=Tryz.isAgg253
 z41:=Tryz.sizeOf253
 v41:=Tryz.zeroValue253
 t44:=Tryz.underlying239
 a44:=Tryz.isAgg239
 z44:=Tryz.sizeOf239
 v44:=Tryz.zeroValue239
 t46:=Tryz.underlying304
 a46:=Tryz.isAgg304
 z46:=Tryz.sizeOf304
 v46:=Tryz.zeroValue304
 t53:=Tryz.underlying412
 a53:=Tryz.isAgg412
 z53:=Tryz.sizeOf412
 v53:=Tryz.zeroValue412
 t57:=Tryz.underlying416
 a57:=Tryz.isAgg416
 z57:=Tryz.sizeOf416
 v57:=Tryz.zeroValue416
 t63:=Tryz.underlying458
 a63:=Tryz.isAgg458
 z63:=Tryz.sizeOf458
 v63:=Tryz.zeroValue458
 t64:=Tryz.underlying459
 a64:=Tryz.isAgg459
 z64:=Tryz.sizeOf459
 v64:=Tryz.zeroValue459 }
def Tryz.keysS_ren:Go.Shelf.Ren:=⟨fun|7=>315|10=>382|n=>n,fun|23=>348|26=>9|3=>4|28=>353|0=>0|27=>352|33=>140|4=>4|n=>n,fun|n=>n⟩
theorem Tryz.keysS:Go.Proofs.SlLaysZ.n7 Tryz.prog Tryz.keysS_ren:={
 mixed:=by kernel_rfl
 f7:=⟨Tryz.f315.name,by decide,Tryz.func315.trans (congrArg some (by kernel_rfl))⟩
 f10:=⟨Tryz.f382.name,by decide,Tryz.func382.trans (congrArg some (by kernel_rfl))⟩
 t0:=Tryz.underlying0
 a0:=Tryz.isAgg0
 z0:=Tryz.sizeOf0
 v0:=Tryz.zeroValue0
 t4:=Tryz.underlying4
 a4:=Tryz.isAgg4
 z4:=Tryz.sizeOf4
 v4:=Tryz.zeroValue4
 t23:=Tryz.underlying348
 a23:=Tryz.isAgg348
 z23:=Tryz.sizeOf348
 v23:=Tryz.zeroValue348
 t26:=Tryz.underlying9
 a26:=Tryz.isAgg9
 z26:=Tryz.sizeOf9
 v26:=Tryz.zeroValue9
 t27:=Tryz.underlying352
 a27:=Tryz.isAgg352
 z27:=Tryz.sizeOf352
 v27:=Tryz.zeroValue352
 t28:=Tryz.underlying353
 a28:=Tryz.isAgg353
 z28:=Tryz.sizeOf353
 v28:=Tryz.zeroValue353
 t33:=Tryz.underlying140
 a33:=Tryz.isAgg140
 z33:=Tryz.sizeOf140
 v33:=Tryz.zeroValue140 }
def Tryz.keysE_ren:Go.Shelf.Ren:=⟨fun|7=>445|10=>463|n=>n,fun|23=>174|26=>9|3=>194|28=>353|0=>0|27=>352|33=>140|4=>4|n=>n,fun|n=>n⟩
theorem Tryz.keysE:Go.Proofs.SlLaysZ.n7 Tryz.prog Tryz.keysE_ren:={
 mixed:=by kernel_rfl
 f7:=⟨Tryz.f445.name,by decide,Tryz.func445.trans (congrArg some (by kernel_rfl))⟩
 f10:=⟨Tryz.f463.name,by decide,Tryz.func463.trans (congrArg some (by kernel_rfl))⟩
 t0:=Tryz.underlying0
 a0:=Tryz.isAgg0
 z0:=Tryz.sizeOf0
 v0:=Tryz.zeroValue0
 t4:=Tryz.underlying4
 a4:=Tryz.isAgg4
 z4:=Tryz.sizeOf4
 v4:=Tryz.zeroValue4
 t23:=Tryz.underlying174
 a23:=Tryz.isAgg174
 z23:=Tryz.sizeOf174
 v23:=Tryz.zeroValue174
 t26:=Tryz.underlying9
 a26:=Tryz.isAgg9
 z26:=Tryz.sizeOf9
 v26:=Tryz.zeroValue9
 t27:=Tryz.underlying352
 a27:=Tryz.isAgg352
 z27:=Tryz.sizeOf352
 v27:=Tryz.zeroValue352
 t28:=Tryz.underlying353
 a28:=Tryz.isAgg353
 z28:=Tryz.sizeOf353
 v28:=Tryz.zeroValue353
 t33:=Tryz.underlying140
 a33:=Tryz.isAgg140
 z33:=Tryz.sizeOf140
 v33:=Tryz.zeroValue140 }
def Tryz.sortedS_ren:Go.Shelf.Ren:=⟨fun|6=>314|8=>381|9=>318|11=>435|13=>290|12=>384|23=>355|24=>356|14=>436|15=>437|16=>438|17=>439|18=>440|19=>441|20=>442|21=>443|22=>444|25=>460|26=>402|27=>403|28=>461|29=>462|30=>429|31=>468|n=>n,fun|26=>9|28=>353|24=>286|0=>0|3=>3|37=>340|48=>239|50=>304|4=>4|40=>380|39=>379|45=>253|5=>5|9=>9|51=>412|55=>416|57=>458|58=>459|33=>140|n=>n,fun|n=>n⟩
theorem Tryz.sortedS:Go.Proofs.SlLaysZ.n6 Tryz.prog Tryz.sortedS_ren:={
 mixed:=by kernel_rfl
 f6:=⟨Tryz.f314.name,by decide,Tryz.func314.trans (congrArg some (by kernel_rfl))⟩
 f8:=⟨Tryz.f381.name,by decide,Tryz.func381.trans (congrArg some (by kernel_rfl))⟩
 f11:=⟨Tryz.f435.name,by decide,Tryz.func435.trans (congrArg some (by kernel_rfl))⟩
 t0:=Tryz.underlying0
 a0:=Tryz.isAgg0
 z0:=Tryz.sizeOf0
 v0:=Tryz.zeroValue0
 t24:=Tryz.underlying286
 a24:=Tryz.isAgg286
 z24:=Tryz.sizeOf286
 v24:=Tryz.zeroValue286
 t26:=Tryz.underlying9
 a26:=Tryz.isAgg9
 z26:=Tryz.sizeOf9
 v26:=Tryz.zeroValue9
 t28:=Tryz.underlying353
 a28:=Tryz.isAgg353
 z28:=Tryz.sizeOf353
 v28:=Tryz.zeroValue353
 i26:=by kernel_rfl }
def Tryz.sortS_ren:Go.Shelf.Ren:=⟨fun|6=>318|8=>290|9=>384|19=>355|20=>356|21=>436|22=>437|23=>438|24=>439|25=>440|26=>441|27=>442|28=>443|29=>444|36=>460|31=>402|32=>403|37=>461|38=>462|39=>429|41=>468|n=>n,fun|27=>286|29=>9|3=>3|32=>340|26=>286|0=>0|44=>239|46=>304|4=>4|36=>380|35=>379|41=>253|5=>5|9=>9|53=>412|57=>416|63=>458|64=>459|n=>n,fun|n=>n⟩
theorem Tryz.sortS:Go.Proofs.SlLaysM.n6 Tryz.prog Tryz.sortS_ren:={
 mixed:=by kernel_rfl
 f6:=⟨Tryz.f318.name,by decide,Tryz.func318.trans (congrArg some (by kernel_rfl))⟩
 f8:=Tryz.func290.trans (congrArg some (by kernel_rfl))
 f9:=⟨Tryz.f384.name,by decide,Tryz.func384.trans (congrArg some (by kernel_rfl))⟩
 f19:=Tryz.func355.trans (congrArg some (by kernel_rfl))
 f20:=Tryz.func356.trans (congrArg some (by kernel_rfl))
 f21:=⟨Tryz.f436.name,by decide,Tryz.func436.trans (congrArg some (by kernel_rfl))⟩
 f22:=⟨Tryz.f437.name,by decide,Tryz.func437.trans (congrArg some (by kernel_rfl))⟩
 f23:=⟨Tryz.f438.name,by decide,Tryz.func438.trans (congrArg some (by kernel_rfl))⟩
 f24:=⟨Tryz.f439.name,by decide,Tryz.func439.trans (congrArg some (by kernel_rfl))⟩
 f25:=⟨Tryz.f440.name,by decide,Tryz.func440.trans (congrArg some (by kernel_rfl))⟩
 f26:=⟨Tryz.f441.name,by decide,Tryz.func441.trans (congrArg some (by kernel_rfl))⟩
 f27:=⟨Tryz.f442.name,by decide,Tryz.func442.trans (congrArg some (by kernel_rfl))⟩
 f28:=⟨Tryz.f443.name,by decide,Tryz.func443.trans (congrArg some (by kernel_rfl))⟩
 f29:=⟨Tryz.f444.name,by decide,Tryz.func444.trans (congrArg some (by kernel_rfl))⟩
 f31:=Tryz.func402.trans (congrArg some (by kernel_rfl))
 f32:=Tryz.func403.trans (congrArg some (by kernel_rfl))
 f36:=⟨Tryz.f460.name,by decide,Tryz.func460.trans (congrArg some (by kernel_rfl))⟩
 f37:=⟨Tryz.f461.name,by decide,Tryz.func461.trans (congrArg some (by kernel_rfl))⟩
 f38:=⟨Tryz.f462.name,by decide,Tryz.func462.trans (congrArg some (by kernel_rfl))⟩
 f39:=⟨Tryz.f429.name,by decide,Tryz.func429.trans (congrArg some (by kernel_rfl))⟩
 f41:=⟨Tryz.f468.name,by decide,Tryz.func468.trans (congrArg some (by kernel_rfl))⟩
 t0:=Tryz.underlying0
 a0:=Tryz.isAgg0
 z0:=Tryz.sizeOf0
 v0:=Tryz.zeroValue0
 t3:=Tryz.underlying3
 a3:=Tryz.isAgg3
 z3:=Tryz.sizeOf3
 v3:=Tryz.zeroValue3
 t4:=Tryz.underlying4
 a4:=Tryz.isAgg4
 z4:=Tryz.sizeOf4
 v4:=Tryz.zeroValue4
 t5:=Tryz.underlying5
 a5:=Tryz.isAgg5
 z5:=Tryz.sizeOf5
 v5:=Tryz.zeroValue5
 t9:=Tryz.underlying9
 a9:=Tryz.isAgg9
 z9:=Tryz.sizeOf9
 v9:=Tryz.zeroValue9
 t26:=Tryz.underlying286
 a26:=Tryz.isAgg286
 z26:=Tryz.sizeOf286
 v26:=Tryz.zeroValue286
 t27:=Tryz.underlying286
 a27:=Tryz.isAgg286
 z27:=Tryz.sizeOf286
 v27:=Tryz.zeroValue286
 t29:=Tryz.underlying9
 a29:=Tryz.isAgg9
 z29:=Tryz.sizeOf9
 v29:=Tryz.zeroValue9
 t32:=Tryz.underlying340
 a32:=Tryz.isAgg340
 z32:=Tryz.sizeOf340
 v32:=Tryz.zeroValue340
 t35:=Tryz.underlying379
 a35:=Tryz.isAgg379
 z35:=Tryz.sizeOf379
 v35:=Tryz.zeroValue379
 t36:=Tryz.underlying380
 a36:=Tryz.isAgg380
 z36:=Tryz.sizeOf380
 v36:=Tryz.zeroValue380
 t41:=Tryz.underlying253
 a41:=Tryz.isAgg253
 z41:=Tryz.sizeOf253
 v41:=Tryz.zeroValue253
 t44:=Tryz.underlying239
 a44:=Tryz.isAgg239
 z44:=Tryz.sizeOf239
 v44:=Tryz.zeroValue239
 t46:=Tryz.underlying304
 a46:=Tryz.isAgg304
 z46:=Tryz.sizeOf304
 v46:=Tryz.zeroValue304
 t53:=Tryz.underlying412
 a53:=Tryz.isAgg412
 z53:=Tryz.sizeOf412
 v53:=Tryz.zeroValue412
 t57:=Tryz.underlying416
 a57:=Tryz.isAgg416
 z57:=Tryz.sizeOf416
 v57:=Tryz.zeroValue416
 t63:=Tryz.underlying458
 a63:=Tryz.isAgg458
 z63:=Tryz.sizeOf458
 v63:=Tryz.zeroValue458
 t64:=Tryz.underlying459
 a64:=Tryz.isAgg459
 z64:=Tryz.sizeOf459
 v64:=Tryz.zeroValue459 }
def Tryz.growB_ren:Go.Shelf.Ren:=⟨fun|4=>386|n=>n,fun|22=>179|25=>5|3=>3|4=>4|9=>9|20=>20|0=>0|n=>n,fun|n=>n⟩
theorem Tryz.growB:Go.Proofs.Lays8.n4 Tryz.prog Tryz.growB_ren:={
 mixed:=by kernel_rfl
 f4:=⟨Tryz.f386.name,by decide,Tryz.func386.trans (congrArg some (by kernel_rfl))⟩
 t0:=Tryz.underlying0
 a0:=Tryz.isAgg0
 z0:=Tryz.sizeOf0
 v0:=Tryz.zeroValue0
 t3:=Tryz.underlying3
 a3:=Tryz.isAgg3
 z3:=Tryz.sizeOf3
 v3:=Tryz.zeroValue3
 t4:=Tryz.underlying4
 a4:=Tryz.isAgg4
 z4:=Tryz.sizeOf4
 v4:=Tryz.zeroValue4
 t9:=Tryz.underlying9
 a9:=Tryz.isAgg9
 z9:=Tryz.sizeOf9
 v9:=Tryz.zeroValue9
 t20:=Tryz.underlying20
 a20:=Tryz.isAgg20
 z20:=Tryz.sizeOf20
 v20:=Tryz.zeroValue20
 t22:=Tryz.underlying179
 a22:=Tryz.isAgg179
 z22:=Tryz.sizeOf179
 v22:=Tryz.zeroValue179 }
def Tryz.growP_ren:Go.Shelf.Ren:=⟨fun|4=>383|n=>n,fun|22=>56|25=>33|3=>3|4=>4|9=>9|20=>20|0=>0|n=>n,fun|n=>n⟩
theorem Tryz.growP:Go.Proofs.Lays8.n4 Tryz.prog Tryz.growP_ren:={
 mixed:=by kernel_rfl
 f4:=⟨Tryz.f383.name,by decide,Tryz.func383.trans (congrArg some (by kernel_rfl))⟩
 t0:=Tryz.underlying0
 a0:=Tryz.isAgg0
 z0:=Tryz.sizeOf0
 v0:=Tryz.zeroValue0
 t3:=Tryz.underlying3
 a3:=Tryz.isAgg3
 z3:=Tryz.sizeOf3
 v3:=Tryz.zeroValue3
 t4:=Tryz.underlying4
 a4:=Tryz.isAgg4
 z4:=Tryz.sizeOf4
 v4:=Tryz.zeroValue4
 t9:=Tryz.underlying9
 a9:=Tryz.isAgg9
 z9:=Tryz.sizeOf9
 v9:=Tryz.zeroValue9
 t20:=Tryz.underlying20
 a20:=Tryz.isAgg20
 z20:=Tryz.sizeOf20
 v20:=Tryz.zeroValue20
 t22:=Tryz.underlying56
 a22:=Tryz.isAgg56
 z22:=Tryz.sizeOf56
 v22:=Tryz.zeroValue56 }
end Go.Proofs
namespace Go.Mem
open Go.RowKit Go.Po Go.Maps
def dv:Value->DataW Unit
 | .int .i64 x=>.lit (.int .i64 x)
 | .bool x=>.lit (.bool x)
 | .pointer (some a)=>.lit (.int .u64 a.block)
 | .pointer none=>.lit (.int .u64 (-1))
 | _=>.nil
def okv:Value->Bool
 | .int .i64 _=>true
 | .bool _=>true
 | .pointer (some ⟨_,0,none⟩)=>true
 | .pointer none=>true
 | _=>false
def rv(v:Value):Option (DataW Unit×List MemPlace):=if okv v=true then some (dv v,[]) else none
theorem Qfi{a b:Value}(c:okv a=true)(d:okv b=true)(h:dv a=dv b):a=b:=by
 unfold okv at c d;split at c<;>split at d<;>simp_all[dv]
 all_goals first|omega|(rename_i x y;exact absurd h (by have:=Int.natCast_nonneg x;omega))|skip
theorem Qcp{v:Value}{d:DataW Unit}{ps:List MemPlace}(h:rv v=some (d,ps)):okv v=true/\d=dv v:=by
 unfold rv at h;split at h
 ·cases h;exact⟨‹_›,rfl⟩
 ·cases h
def Mp(P:Program)(kT:TypeId)(w:World)(b:Nat)(m:List (Lit×Value)):Prop:=
 w.ownsMap P kT rv b m.length (.map (m.map λp=>(p.1,dv p.2)))/\∀p∈m,okv p.2=true
def Wu(k:Lit)(v:Value):List (Lit×Value)->List (Lit×Value)
 | []=>[(k,v)]
 | y::r=>if k.before y.1 then (k,v)::y::r else y::Wu k v r
def U1(k:Lit)(m:List (Lit×Value)):List (Lit×Value):=m.filter λp=>!p.1.sameKey k
def Bh(k:Lit)(m:List (Lit×Value)):Option Value:=(m.find? λp=>p.1.sameKey k).map (·.2)
section
variable {P : Program} {kT t e b : Nat} {w w' : World} {m : List (Lit × Value)} {k : Lit} {key v : Value}
theorem Qhv{n:Nat}{D:DataW Unit}(h:w.ownsMap P kT rv b n D):w.ownsMap P kT rv b (Maps.size D) D:=by
 obtain⟨c,a,d,F,e,rfl⟩:=h;exact⟨c,a,d,F,by simp[Maps.size,length_sorted],rfl⟩
theorem Mp.kept(h:Mp P kT w b m){S:Nat->Prop}(g:Kept S w w')(j:¬S b):Mp P kT w' b m:=by
 obtain⟨⟨c,a,f,F,i,e⟩,d⟩:=h;exact⟨⟨c,a,g.heap j f,F,i,e⟩,d⟩
theorem Mp.bel(h:Mp P kT w b m)(a:Bel w w'):Mp P kT w' b m:=h.kept (a.kept λ_=>False) (λh=>h)
theorem Mp.lt(h:Mp P kT w b m):b<w.heap.size:=h.1.lt
theorem Mp.made(w:World)(P:Program)(kT:TypeId):Mp P kT (w.alloc (.map #[] 0)) w.heap.size []:=⟨World.ownsMap_made w P kT rv,by simp⟩
theorem Qk3(k:Lit)(v:Value):∀m:List (Lit×Value),(Wu k v m).map (λp=>(p.1,dv p.2))=DataW.insert (k,dv v) (m.map λp=>(p.1,dv p.2))
 | []=>rfl
 | y::r=>by
  simp only[Wu,List.map_cons,DataW.insert];split
  ·rfl
  ·rw[List.map_cons,Qk3 k v r]
theorem Qk4(k:Lit)(m:List (Lit×Value)):(U1 k m).map (λp=>(p.1,dv p.2))=(m.map λp=>(p.1,dv p.2)).filter λp=>!p.1.sameKey k:=by
 simp only[U1,List.filter_map];rfl
theorem Qk5{k:Lit}{v:Value}{p:Lit×Value}:∀{m:List (Lit×Value)},p∈Wu k v m->p=(k,v)\/p∈m
 | [],h=>by simp[Wu]at h;exact .inl h
 | y::r,h=>by
  simp only[Wu]at h;split at h
  ·rcases List.mem_cons.1 h with h|h
   ·exact .inl h
   ·exact .inr h
  ·rcases List.mem_cons.1 h with h|h
   ·exact .inr (by simp[h])
   ·rcases Qk5 h with h|h
    ·exact .inl h
    ·exact .inr (by simp[h])
theorem Qde{w w':World}{b:Nat}(h:w.mapTurned w' b):Kept (λk=>k=b) w w':=by
 obtain⟨f,d,g,e,a,rfl⟩:=h;exact⟨rfl,rfl,rfl,by simp[ChangeMaps.setBlock],λi _ c=>ChangeMaps.heap_setBlock_other a _ c⟩
theorem Qu1(k:Lit)(m:List (Lit×Value)):(m.map λp=>(p.1,dv p.2)).find? (λp=>p.1.sameKey k)=(m.find? λp=>p.1.sameKey k).map λp=>(p.1,dv p.2):=by
 induction m with
 | nil=>rfl
 | cons y r ih=>simp only[List.map_cons,List.find?_cons];split<;>simp_all
theorem Qok(h:Mp P kT w b m){x:Value}(a:Bh k m=some x):okv x=true:=by
 unfold Bh at a;rcases c:m.find? (λp=>p.1.sameKey k)with _|p
 ·rw[c]at a;cases a
 ·rw[c]at a;cases a;exact h.2 p (List.mem_of_find?_eq_some c)
theorem Qfj(k:Lit)(m:List (Lit×Value))(z:Value):(DataW.map (m.map λp=>(p.1,dv p.2))).atKey k (dv z)=dv ((Bh k m).getD z):=by
 simp only[DataW.atKey,Qu1,Bh];cases m.find? (λp=>p.1.sameKey k)<;>rfl
theorem Mp.look(h:Mp P kT w b m)(K:Keyed P kT)(l:P.underlying t=some (.map kT e)){z:Value}(n:(zeroValue e).run P w=.ok z w)(c:okv z=true)(i:keyOf P kT key=some k):
 (Instr.lookup t (.map (some b)) key false).run P w=.ok ((Bh k m).getD z) w:=by
 obtain⟨x,ps,j,a⟩:=h.1.lookup K l n (zd:=dv z) (zp:=[]) (by simp[rv,c]) i;rw[Qfj]at a;obtain⟨d,f⟩:=Qcp a;have:x=(Bh k m).getD z:=Qfi d (by
  rcases g:Bh k m with _|y
  ·exact c
  ·exact Qok h g) f.symm
 rw[j,this]
theorem Rq(k:Lit)(m:List (Lit×Value)):Maps.has (DataW.map (m.map λp=>(p.1,dv p.2))) k=(Bh k m).isSome:=by
 rw[Maps.has_eq,Bh,Option.isSome_map];induction m with
 | nil=>rfl
 | cons y r ih=>simp only[List.map_cons,List.any_cons,List.find?_cons];split<;>simp_all
theorem Mp.look_ok(h:Mp P kT w b m)(K:Keyed P kT)(l:P.underlying t=some (.map kT e)){z:Value}(n:(zeroValue e).run P w=.ok z w)(c:okv z=true)(i:keyOf P kT key=some k):
 (Instr.lookup t (.map (some b)) key true).run P w=.ok (.tuple #[(Bh k m).getD z,.bool (Bh k m).isSome]) w:=by
 obtain⟨x,ps,j,a⟩:=h.1.look_ok K l n (zd:=dv z) (zp:=[]) (by simp[rv,c]) i;rw[Qfj]at a;obtain⟨d,f⟩:=Qcp a;have:x=(Bh k m).getD z:=Qfi d (by
  rcases g:Bh k m with _|y
  ·exact c
  ·exact Qok h g) f.symm
 rw[j,this,Rq]
theorem Mp.put(h:Mp P kT w b m)(K:Keyed P kT)(n:P.underlying t=some (.map kT e))(j:m.length<maxLen)(i:keyOf P kT key=some k)(f:okv v=true):
 ∃w',(Instr.mapUpdate t (.map (some b)) key v).run P w=.ok () w'/\Mp P kT w' b (Wu k v (U1 k m))/\Kept (λk=>k=b) w w':=by
 obtain⟨w',l,c,g⟩:=h.1.store K n j (d:=dv v) (ps:=[]) (val:=v) i (by simp[rv,f]);refine⟨w',l,⟨?_,λp a=>?_⟩,Qde g⟩
 ·have e:(DataW.map (m.map λp=>(p.1,dv p.2))).put k (dv v)=.map ((Wu k v (U1 k m)).map λp=>(p.1,dv p.2)):=by
   rw[Qk3,Qk4];rfl
  rw[e]at c;have:=Qhv c;simpa[Maps.size] using this
 ·rcases Qk5 a with rfl|a
  ·exact f
  ·exact h.2 p (List.mem_filter.1 a).1
theorem Mp.del(h:Mp P kT w b m)(K:Keyed P kT)(j:P.underlying t=some (.map kT e))(f:keyOf P kT key=some k)(c:TypeId):
 ∃w',(Builtin.delete_ #[t,kT] c #[.map (some b),key]).run P w=.ok (.tuple #[]) w'/\Mp P kT w' b (U1 k m)/\Kept (λk=>k=b) w w':=by
 obtain⟨w',i,a,d⟩:=h.1.drop K j f c;refine⟨w',i,⟨?_,λp g=>h.2 p (List.mem_filter.1 g).1⟩,Qde d⟩;have e:(DataW.map (m.map λp=>(p.1,dv p.2))).del k=.map ((U1 k m).map λp=>(p.1,dv p.2)):=by
  rw[Qk4];rfl
 rw[e]at a;have:=Qhv a;simpa[Maps.size] using this
theorem Mp.len(h:Mp P kT w b m)(c:P.underlying t=some (.map kT e))(a:TypeId):(Builtin.len_ #[t] a #[.map (some b)]).run P w=.ok (.int .i64 m.length) w:=by
 have:=h.1.len c a;simpa[Maps.size] using this
end
def iL{α:Type}(f:α->Value)(l:List (Int×α)):List (Lit×Value):=l.map λp=>(.int .i64 p.1,f p.2)
def Kg{α:Type}(k:Int)(v:α):List (Int×α)->List (Int×α)
 | []=>[(k,v)]
 | y::r=>if k<y.1 then (k,v)::y::r else y::Kg k v r
def Xn{α:Type}(k:Int)(l:List (Int×α)):List (Int×α):=l.filter λp=>decide (p.1≠k)
def Qn{α:Type}(k:Int)(l:List (Int×α)):Option α:=(l.find? λp=>decide (p.1=k)).map (·.2)
def Qo{α:Type}(k:Int)(v:α)(l:List (Int×α)):List (Int×α):=Kg k v (Xn k l)
theorem Di{α:Type}(f:α->Value)(k:Int)(v:α):∀l:List (Int×α),Wu (.int .i64 k) (f v) (iL f l)=iL f (Kg k v l)
 | []=>rfl
 | y::r=>by
  simp only[iL,List.map_cons,Wu,Kg,Lit.before,decide_eq_true_eq];split
  ·rfl
  ·have:=Di f k v r
   simp only[iL]at this;rw[this];rfl
theorem Wv{α:Type}(f:α->Value)(k:Int)(l:List (Int×α)):U1 (.int .i64 k) (iL f l)=iL f (Xn k l):=by
 simp only[U1,iL,Xn,List.filter_map];congr 1
 apply List.filter_congr;intro x _;simp[Lit.sameKey]
theorem Vp{α:Type}(f:α->Value)(k:Int)(l:List (Int×α)):Bh (.int .i64 k) (iL f l)=(Qn k l).map f:=by
 unfold Bh iL Qn;induction l with
 | nil=>rfl
 | cons y r ih=>
  have e:(Lit.int IntKind.i64 y.1).sameKey (.int .i64 k)=decide (y.1=k):=by simp[Lit.sameKey]
  simp only[List.map_cons,List.find?_cons,e];by_cases h:y.1=k
  ·simp[h]
  ·simp only[h,decide_false];exact ih
def sL{α:Type}(f:α->Value)(l:List (ByteArray×α)):List (Lit×Value):=l.map λp=>(.string p.1.data.toList,f p.2)
def Yz{α:Type}(k:ByteArray)(v:α):List (ByteArray×α)->List (ByteArray×α)
 | []=>[(k,v)]
 | y::r=>if bytesBefore k.data.toList y.1.data.toList then (k,v)::y::r else y::Yz k v r
def Qx{α:Type}(k:ByteArray)(l:List (ByteArray×α)):List (ByteArray×α):=l.filter λp=>decide (p.1≠k)
def Qg{α:Type}(k:ByteArray)(l:List (ByteArray×α)):Option α:=(l.find? λp=>decide (p.1=k)).map (·.2)
def Jh{α:Type}(k:ByteArray)(v:α)(l:List (ByteArray×α)):List (ByteArray×α):=Yz k v (Qx k l)
theorem M6{a b:ByteArray}:a.data.toList=b.data.toList↔a=b:=by
 constructor
 ·intro h
  obtain⟨a⟩:=a;obtain⟨b⟩:=b;congr 1
  exact Array.toList_inj.1 h
 ·rintro rfl;rfl
theorem Rs{α:Type}(f:α->Value)(k:ByteArray)(v:α):∀l:List (ByteArray×α),Wu (.string k.data.toList) (f v) (sL f l)=sL f (Yz k v l)
 | []=>rfl
 | y::r=>by
  have e:(Lit.string k.data.toList).before (.string y.1.data.toList)=bytesBefore k.data.toList y.1.data.toList:=rfl;have ih:=Rs f k v r;simp only[sL]at ih;simp only[sL,List.map_cons,Wu,Yz,e];by_cases h:bytesBefore k.data.toList y.1.data.toList=true
  ·simp[h]
  ·simp[h,ih]
theorem Lm{α:Type}(f:α->Value)(k:ByteArray)(l:List (ByteArray×α)):U1 (.string k.data.toList) (sL f l)=sL f (Qx k l):=by
 simp only[U1,sL,Qx,List.filter_map];congr 1
 apply List.filter_congr;intro x _;simp only[Function.comp,Lit.sameKey,ne_eq,decide_not];congr 1
 rw[Bool.eq_iff_iff,beq_iff_eq,decide_eq_true_eq];exact M6
theorem Lp{α:Type}(f:α->Value)(k:ByteArray)(l:List (ByteArray×α)):Bh (.string k.data.toList) (sL f l)=(Qg k l).map f:=by
 unfold Bh sL Qg;induction l with
 | nil=>rfl
 | cons y r ih=>
  have e:(Lit.string y.1.data.toList).sameKey (.string k.data.toList)=decide (y.1=k):=by
   show(y.1.data.toList==k.data.toList)=_;rw[Bool.eq_iff_iff,beq_iff_eq,decide_eq_true_eq];exact M6
  simp only[List.map_cons,List.find?_cons,e];by_cases h:y.1=k
  ·simp[h]
  ·simp only[h,decide_false];exact ih
end Go.Mem
namespace Go.Proofs.YtkdpmdfcdgphlaaGreat
open Tryz
open Go.RowKit Go.Mem Go.Po Go.Maps Go.Sort Go.Shelf
theorem Qal{α:Type}(r:Rp α)(f:α->Value)(c:r.size=1)(D:∀A w x,r.R A w x [f x]){A:Nat->Prop}{w w':World}{e:TypeId}{v:Value}{n:Nat}{l:List α}(h:w'.ownsRow w.heap.size e 1 v n (l.map f)):
 ∃ao cap,v=.slice ao l.length cap/\Own r A w w' e ao cap l:=by
 obtain⟨d,h⟩:=h;have G:n=l.length:=by simpa using d.symm
 subst G;have C:∀B:Nat->Prop,Ch (r.R B w') r.size l (l.map f):=λB=>by
  rw[c];clear h d;induction l with
  | nil=>exact .nil
  | cons x l ih=>exact .cons (vs:=[f x]) (D _ _ x) rfl ih
 rcases h with⟨m,q⟩|⟨g,cap,o,m,E,p,s,t,y,z⟩
 ·have b:l=[]:=List.eq_nil_of_length_eq_zero q
  subst b;exact⟨none,0,m,Own.nil r A w w' e⟩
 ·refine⟨some ⟨g,0,none⟩,cap,m,l.map f,C _,⟨by rw[c];exact d,s,t,λ_=>⟨g,0,o,rfl,Qb p,p,by rw[c,y];omega,λj b b=>?_⟩⟩,λk F=>?_⟩
  ·rw[<-z]at b
   rw[Nat.zero_add];have:=List.getElem?_take (l:=o.toList) (i:=l.length*1) (j:=j);rw[this]at b;split at b
   ·simpa using b
   ·cases b
  ·obtain⟨_,a,b,rfl⟩:=F
   cases b;exact E
theorem Qf1{α:Type}(f:α->Value)(l:List (Int×α)):intKeys (DataW.map ((iL f l).map λp=>(p.1,dv p.2)))=l.map (·.1):=by
 simp only[intKeys,iL,List.map_map];rfl
theorem Qqn{α:Type}(f:α->Value)(l:List (ByteArray×α)):strKeys (DataW.map ((sL f l).map λp=>(p.1,dv p.2)))=l.map λp=>p.1.data.toList:=by
 simp only[strKeys,sL,List.map_map];rfl
theorem Qf2{d l:List Int}(g:d.Perm l)(h:l.Pairwise (·<·)):d.mergeSort (λx y=>decide (x<=y))=l:=by
 have e:=List.pairwise_mergeSort (le:=λx y:Int=>decide (x<=y)) (by intro a b c;simp;omega) (by intro a b;simp;omega) d;have f:(d.mergeSort (λx y=>decide (x<=y))).Perm l:=(List.mergeSort_perm _ _).trans g;refine f.eq_of_pairwise (le:=λx y:Int=>decide (x<=y)=true) (λa b _ _ e f=>by simp at e f;omega) e ?_;exact h.imp λi=>by simp;omega
theorem Qzg(m:Nat):AnyZI.SortsIn prog Tryz.sortedI_ren Fence.wide m:=
 ⟨λa off cap e W b c d=>callsIn_wide.2 (AnyM.slices_Sort_int Tryz.sortI a off cap e W b c d),
  λp cap W=>callsIn_wide.2 (AnyM.slices_Sort_int_none Tryz.sortI p cap W)⟩
theorem Qss(a:Option Nat)(w:World):
 Calls prog 166 #[.map a] w λe w'=>e=.returned (.func (.func 248) #[] #[.pointer (some ⟨w.heap.size,0,none⟩)])/\w'=w.alloc (.cells #[.map a] 224):=
 (callsIn_wide (n:=5)).1 (AnyZI.keys_in Tryz.keysI Fence.wide 5 trivial rfl a w)
theorem Qnp{α:Type}(f:α->Value)(l:List (Int×α))(r:(l.map (·.1)).Pairwise (·<·))(A:Nat->Prop)(w:World)(b a:Nat)(k:a<w.heap.size)(o:w.cell? ⟨a,0,none⟩=some (.map (some b)))(j:Mp prog 3 w b (iL f l))(y:l.length<=1000000):
 Calls prog 165 #[.func (.func 248) #[] #[.pointer (some ⟨a,0,none⟩)]] w λe w'=>∃ao cap,e=.returned (.slice ao l.length cap)/\Own Qh A w w' 3 ao cap (l.map (·.1))/\Bel w w':=by
 have g:SeqGives Fence.wide 2 prog 248 #[.pointer (some ⟨a,0,none⟩)] encZ (λh=>h.Perm (intKeys (DataW.map ((iL f l).map λp=>(p.1,dv p.2))))) (Maps.size (DataW.map ((iL f l).map λp=>(p.1,dv p.2)))) w:=
  AnyZI.keys_gives (ρ:=Tryz.keysI_ren) { Tryz.keysI with } Fence.wide _ trivial rfl (by omega) a b _ _ _ k o j.1
 have s:Maps.size (DataW.map ((iL f l).map λp=>(p.1,dv p.2)))=l.length:=by simp[Maps.size,iL]
 rw[s,Qf1]at g;have i:=AnyZI.sorted_in Tryz.sortedI Fence.wide 5 trivial trivial trivial trivial rfl (by omega) (Qzg _) (enters_of func247 (by kernel_rfl) rfl) 248 #[.pointer (some ⟨a,0,none⟩)] trivial (enters_of func248 (by kernel_rfl) rfl) _ _ (by unfold maxLen;omega) (by omega) _ g;refine((callsIn_wide (n:=5)).1 i).mono ?_;rintro e w' ⟨v,h,rfl,c,d,z,m⟩;rw[Qf2 c r,c.length_eq]at d;obtain⟨ao,cap,t,q⟩:=Qal Qh (λx=>.int .i64 x) rfl (λ_ _ _=>rfl) (A:=A) d;exact⟨ao,cap,by rw[t,List.length_map],q,m⟩
theorem Qzh(m:Nat):AnyZI.SortsIn prog Tryz.sortedL_ren Fence.wide m:=
 ⟨λa off cap e W b c d=>callsIn_wide.2 (AnyM.slices_Sort_int Tryz.sortL a off cap e W b c d),
  λp cap W=>callsIn_wide.2 (AnyM.slices_Sort_int_none Tryz.sortL p cap W)⟩
theorem Qst(a:Option Nat)(w:World):
 Calls prog 210 #[.map a] w λe w'=>e=.returned (.func (.func 299) #[] #[.pointer (some ⟨w.heap.size,0,none⟩)])/\w'=w.alloc (.cells #[.map a] 272):=
 (callsIn_wide (n:=5)).1 (AnyZI.keys_in Tryz.keysL Fence.wide 5 trivial rfl a w)
theorem Qnq{α:Type}(f:α->Value)(l:List (Int×α))(r:(l.map (·.1)).Pairwise (·<·))(A:Nat->Prop)(w:World)(b a:Nat)(k:a<w.heap.size)(o:w.cell? ⟨a,0,none⟩=some (.map (some b)))(j:Mp prog 2 w b (iL f l))(y:l.length<=1000000):
 Calls prog 209 #[.func (.func 299) #[] #[.pointer (some ⟨a,0,none⟩)]] w λe w'=>∃ao cap,e=.returned (.slice ao l.length cap)/\Own Qh A w w' 2 ao cap (l.map (·.1))/\Bel w w':=by
 have g:SeqGives Fence.wide 2 prog 299 #[.pointer (some ⟨a,0,none⟩)] encZ (λh=>h.Perm (intKeys (DataW.map ((iL f l).map λp=>(p.1,dv p.2))))) (Maps.size (DataW.map ((iL f l).map λp=>(p.1,dv p.2)))) w:=
  AnyZI.keys_gives (ρ:=Tryz.keysL_ren) { Tryz.keysL with } Fence.wide _ trivial rfl (by omega) a b _ _ _ k o j.1
 have s:Maps.size (DataW.map ((iL f l).map λp=>(p.1,dv p.2)))=l.length:=by simp[Maps.size,iL]
 rw[s,Qf1]at g;have i:=AnyZI.sorted_in Tryz.sortedL Fence.wide 5 trivial trivial trivial trivial rfl (by omega) (Qzh _) (enters_of func191 (by kernel_rfl) rfl) 299 #[.pointer (some ⟨a,0,none⟩)] trivial (enters_of func299 (by kernel_rfl) rfl) _ _ (by unfold maxLen;omega) (by omega) _ g;refine((callsIn_wide (n:=5)).1 i).mono ?_;rintro e w' ⟨v,h,rfl,c,d,z,m⟩;rw[Qf2 c r,c.length_eq]at d;obtain⟨ao,cap,t,q⟩:=Qal Qh (λx=>.int .i64 x) rfl (λ_ _ _=>rfl) (A:=A) d;exact⟨ao,cap,by rw[t,List.length_map],q,m⟩
theorem Qsu(m:Nat):AnyZ.SortsIn prog Tryz.sortedS_ren Fence.wide m:=
 ⟨λa off cap e W b c d=>callsIn_wide.2 (AnyM.slices_Sort_string Tryz.sortS a off cap e W b c d),
  λp cap W=>callsIn_wide.2 (AnyM.slices_Sort_string_none Tryz.sortS p cap W)⟩
theorem Qsv(a:Option Nat)(w:World):
 Calls prog 315 #[.map a] w λe w'=>e=.returned (.func (.func 382) #[] #[.pointer (some ⟨w.heap.size,0,none⟩)])/\w'=w.alloc (.cells #[.map a] 348):=
 (callsIn_wide (n:=5)).1 (AnyZ.keys_in Tryz.keysS Fence.wide 5 trivial rfl a w)
theorem Qsw(a:Option Nat)(w:World):
 Calls prog 445 #[.map a] w λe w'=>e=.returned (.func (.func 463) #[] #[.pointer (some ⟨w.heap.size,0,none⟩)])/\w'=w.alloc (.cells #[.map a] 174):=
 (callsIn_wide (n:=5)).1 (AnyZ.keys_in Tryz.keysE Fence.wide 5 trivial rfl a w)
theorem Qow:(∀⦃α:Type⦄ (f:α->Value) (l:List (ByteArray×α)) (A:Nat->Prop) (w:World) (b c:Nat) (g:c<w.heap.size) (i:w.cell? ⟨c,0,none⟩=some (.map (some b))) (h:Mp prog 9 w b (sL f l)) (t:l.length<=1000000),Calls prog 314 #[.func (.func 382) #[] #[.pointer (some ⟨c,0,none⟩)]] w λe w'=>∃ao cap a,e=.returned (.slice ao l.length cap)/\Own Xk A w w' 9 ao cap a/\a.Perm (l.map (·.1))/\Bel w w') ∧
 (∀⦃α:Type⦄ (f:α->Value) (l:List (ByteArray×α)) (A:Nat->Prop) (w:World) (b c:Nat) (g:c<w.heap.size) (i:w.cell? ⟨c,0,none⟩=some (.map (some b))) (h:Mp prog 9 w b (sL f l)) (t:l.length<=1000000),Calls prog 314 #[.func (.func 463) #[] #[.pointer (some ⟨c,0,none⟩)]] w λe w'=>∃ao cap a,e=.returned (.slice ao l.length cap)/\Own Xk A w w' 9 ao cap a/\a.Perm (l.map (·.1))/\Bel w w'):=by
 refine⟨have k1:=trivial;?_,have k2:=trivial;?_⟩;all_goals
  intro α f l A w b c g i h t;first
   | (have k2:=k2
      have j:SeqGives Fence.wide 2 prog 463 #[.pointer (some ⟨c,0,none⟩)] encStr (λd=>d.Perm (strKeys (DataW.map ((sL f l).map λp=>(p.1,dv p.2))))) (Maps.size (DataW.map ((sL f l).map λp=>(p.1,dv p.2)))) w:=
       AnyZ.keys_gives (ρ:=Tryz.keysE_ren) { Tryz.keysE with } Fence.wide _ trivial rfl (by omega) c b _ _ _ g i h.1)
   | (have j:SeqGives Fence.wide 2 prog 382 #[.pointer (some ⟨c,0,none⟩)] encStr (λd=>d.Perm (strKeys (DataW.map ((sL f l).map λp=>(p.1,dv p.2))))) (Maps.size (DataW.map ((sL f l).map λp=>(p.1,dv p.2)))) w:=
       AnyZ.keys_gives (ρ:=Tryz.keysS_ren) { Tryz.keysS with } Fence.wide _ trivial rfl (by omega) c b _ _ _ g i h.1)
  have E:Maps.size (DataW.map ((sL f l).map λp=>(p.1,dv p.2)))=l.length:=by simp[Maps.size,sL]
  rw[E,Qqn]at j;first|(have k2:=k2;have o:=AnyZ.sorted_in Tryz.sortedS Fence.wide 5 trivial trivial trivial trivial rfl (by omega) (Qsu _) (enters_of func318 (by kernel_rfl) rfl) 463 #[.pointer (some ⟨c,0,none⟩)] trivial (enters_of func463 (by kernel_rfl) rfl) _ _ (by unfold maxLen;omega) (by omega) _ j)|(have o:=AnyZ.sorted_in Tryz.sortedS Fence.wide 5 trivial trivial trivial trivial rfl (by omega) (Qsu _) (enters_of func318 (by kernel_rfl) rfl) 382 #[.pointer (some ⟨c,0,none⟩)] trivial (enters_of func382 (by kernel_rfl) rfl) _ _ (by unfold maxLen;omega) (by omega) _ j)
  refine((callsIn_wide (n:=5)).1 o).mono ?_;rintro e w' ⟨v,d,rfl,q,m,G,C⟩;obtain⟨a,r⟩:∃a:List ByteArray,a.map (λs=>s.data.toList)=d.mergeSort (λx y=>decide (x<=y)):=⟨(d.mergeSort (λx y=>decide (x<=y))).map (λx=>⟨x.toArray⟩),by rw[List.map_map,show((λs:ByteArray=>s.data.toList) ∘ λx:List UInt8=>(⟨x.toArray⟩:ByteArray))=id from funext λx=>by simp,List.map_id]⟩;have D:(a.map λs=>s.data.toList).Perm (l.map λp=>p.1.data.toList):=by rw[r];exact(List.mergeSort_perm _ _).trans q
  have z:a.Perm (l.map (·.1)):=by
   have k:=D.map λx:List UInt8=>(⟨x.toArray⟩:ByteArray)
   rw[List.map_map,List.map_map]at k;have B:a.map ((λx:List UInt8=>(⟨x.toArray⟩:ByteArray)) ∘ λs=>s.data.toList)=a:=by
    rw[show((λx:List UInt8=>(⟨x.toArray⟩:ByteArray)) ∘ λs:ByteArray=>s.data.toList)=λs=>s from funext λs=>by simp];simp
   rw[B]at k;refine k.trans (List.Perm.of_eq ?_);exact List.map_congr_left λp _=>by simp
  rw[<-r,List.map_map,q.length_eq]at m;have B:w'.ownsRow w.heap.size 9 1 v (l.map λp=>p.1.data.toList).length (a.map λs=>.string s):=by
   have k:a.map (encStr ∘ λs=>s.data.toList)=a.map λs=>Value.string s:=List.map_congr_left λs _=>by simp[encStr]
   rw[k]at m;exact m
  obtain⟨ao,cap,F,k⟩:=Qal Xk (λx=>.string x) rfl (λ_ _ _=>rfl) (A:=A) B;exact⟨ao,cap,a,by rw[F,z.length_eq,List.length_map],k,z,C⟩
def Qnr:=Qow.1
def Qns:=Qow.2
def Qa7(f s e:Nat):Ren:=⟨fun|15=>f|n=>n,fun|22=>s|3=>e|n=>n,λn=>n⟩
theorem Cy{α:Type}{r:Rp α}{ρ:Ren}{j:Nat}(el:El prog (ρ.t 22) (ρ.t 3) r.size j)(t:Bears prog (ρ.f 15) (Body2.n15 ρ))(z:j<=64)(y:r.size<=6)(A:Nat->Prop)(w:World)(ao:Option Addr)(cap:Nat)(l:List α)(h:Rd r A w ao cap l)(B:l.length<=4294967296):
 Calls prog (ρ.f 15) #[.slice ao l.length cap] w λe w'=>(∃b c,e=.returned (.slice b l.length c)/\Own r A w w' (ρ.t 3) b c l)/\Bel w w':=by
 have d:=el.ht;have C:∀w,(underlying (ρ.t 22)).run prog w=.ok (.slice (ρ.t 3)) w:=λw=>by simp[underlying,d]
 have E:∀w,(sizeOf (ρ.t 3)).run prog w=.ok r.size w:=λw=>by
  obtain⟨m,q,f,n,i,o,p⟩:=el.hi;simp[sizeOf,typeInfo,f,i]
 obtain⟨_,_,i⟩:=t;rcases ao with _|a
 ·obtain rfl:l=[]:=by
   rcases l with _|⟨x,l⟩
   ·rfl
   ·obtain⟨g,off,vs,f,_⟩:=h.at (k:=0) (x:=x) (by simp)
    cases f
  have v:=λw=>Lib.run_eql_slice_nil (P:=prog) w (ρ.t 22) (ρ.t 3) none 0 cap 0 0 d
  clear h el;rw[List.length_nil];go_enter i,Body2.n15_ntmps ρ;go_wp2;go_ret;exact⟨⟨none,0,rfl,Own.nil _ _ _ _ _⟩,Bel.refl _⟩
 ·obtain⟨xs,f,m⟩:=(h.bel ((Bel.refl w).alloc (.cells #[] (ρ.t 3)))).src (P:=prog) d
  have v:=λw=>Lib.run_eql_slice_nil (P:=prog) w (ρ.t 22) (ρ.t 3) (some a) l.length cap 0 0 d
  obtain⟨s,n,p⟩:=Zh3 m el f;clear h m f el;go_enter i,Body2.n15_ntmps ρ;go_wp2_with(at_builtin;go_must (refine Ja (r:=r) (A:=A) (w0:=w) _ rfl _ _ (ρ.t 22) (ρ.t 22) rfl n.o (some ⟨w.heap.size,0,none⟩) 0 [] (Own.empty _ _ _ _ _ _) rfl _ rfl l xs (p.mono λ_ _ _ h=>r.mono h λk _ f=>f.elim id λf=>absurd f.1 (by omega)) s.o (by simp;omega) (by omega) ((Bel.refl w).alloc _) ?_);intro b c D f _ m _;have q:=Zh f;have o:=Zh m;clear f m);go_ret;exact⟨⟨b,c,rfl,by have:=q.o;rwa [List.nil_append]at this⟩,o.o⟩
theorem Qji:El prog 38 47 6 64:=El.mk' underlying38 (z:=.agg #[.int .i64 0,.string ⟨#[]⟩,.string ⟨#[]⟩,.int .i64 0,.int .i64 0,.int .i64 0]) (by kernel_rfl) rfl
theorem Qjj:El prog 40 51 2 16:=El.mk' underlying40 (z:=.agg #[.int .i64 0,.bool false]) (by kernel_rfl) rfl
theorem Qa8:El prog 39 58 2 32:=El.mk' underlying39 (z:=.agg #[.int .i64 0,.slice none 0 0]) (by kernel_rfl) rfl
theorem Qgi:El prog 41 134 2 32:=El.mk' underlying41 (z:=.agg #[.int .i64 0,.slice none 0 0]) (by kernel_rfl) rfl
theorem Qjk:El prog 286 9 1 16:=El.mk' underlying286 (z:=.string ⟨#[]⟩) (by kernel_rfl) rfl
theorem Qa9(A:Nat->Prop)(w:World)(ao:Option Addr)(cap:Nat)(l:List Msg)(h:Rd Xy A w ao cap l)(c:l.length<=4294967296):
 Calls prog 69 #[.slice ao l.length cap] w λe w'=>(∃a b,e=.returned (.slice a l.length b)/\Own Xy A w w' 47 a b l)/\Bel w w':=
 Cy (r:=Xy) (ρ:=Qa7 69 38 47) Qji ⟨Tryz.f69.name,by decide,func69.trans (congrArg some (by kernel_rfl))⟩ (by decide) (by decide) A w ao cap l h c
theorem Ns(A:Nat->Prop)(w:World)(ao:Option Addr)(cap:Nat)(l:List Fin)(h:Rd J7 A w ao cap l)(c:l.length<=4294967296):
 Calls prog 70 #[.slice ao l.length cap] w λe w'=>(∃a b,e=.returned (.slice a l.length b)/\Own J7 A w w' 51 a b l)/\Bel w w':=
 Cy (r:=J7) (ρ:=Qa7 70 40 51) Qjj ⟨Tryz.f70.name,by decide,func70.trans (congrArg some (by kernel_rfl))⟩ (by decide) (by decide) A w ao cap l h c
theorem Ma(A:Nat->Prop)(w:World)(ao:Option Addr)(cap:Nat)(l:List Branch)(h:Rd Zm A w ao cap l)(c:l.length<=4294967296):
 Calls prog 71 #[.slice ao l.length cap] w λe w'=>(∃a b,e=.returned (.slice a l.length b)/\Own Zm A w w' 58 a b l)/\Bel w w':=
 Cy (r:=Zm) (ρ:=Qa7 71 39 58) Qa8 ⟨Tryz.f71.name,by decide,func71.trans (congrArg some (by kernel_rfl))⟩ (by decide) (by decide) A w ao cap l h c
theorem H5(A:Nat->Prop)(w:World)(ao:Option Addr)(cap:Nat)(l:List Qv)(h:Rd Z4 A w ao cap l)(c:l.length<=4294967296):
 Calls prog 72 #[.slice ao l.length cap] w λe w'=>(∃a b,e=.returned (.slice a l.length b)/\Own Z4 A w w' 134 a b l)/\Bel w w':=
 Cy (r:=Z4) (ρ:=Qa7 72 41 134) Qgi ⟨Tryz.f72.name,by decide,func72.trans (congrArg some (by kernel_rfl))⟩ (by decide) (by decide) A w ao cap l h c
theorem Qba(A:Nat->Prop)(w:World)(ao:Option Addr)(cap:Nat)(l:List Put)(h:Rd Qw A w ao cap l)(c:l.length<=4294967296):
 Calls prog 73 #[.slice ao l.length cap] w λe w'=>(∃a b,e=.returned (.slice a l.length b)/\Own Qw A w w' 33 a b l)/\Bel w w':=
 Cy (r:=Qw) (ρ:=Qa7 73 56 33) Rj ⟨Tryz.f73.name,by decide,func73.trans (congrArg some (by kernel_rfl))⟩ (by decide) (by decide) A w ao cap l h c
theorem Qbb(A:Nat->Prop)(w:World)(ao:Option Addr)(cap:Nat)(l:List Int)(h:Rd Qh A w ao cap l)(c:l.length<=4294967296):
 Calls prog 74 #[.slice ao l.length cap] w λe w'=>(∃a b,e=.returned (.slice a l.length b)/\Own Qh A w w' 3 a b l)/\Bel w w':=
 Cy (r:=Qh) (ρ:=Qa7 74 67 3) Qjx ⟨Tryz.f74.name,by decide,func74.trans (congrArg some (by kernel_rfl))⟩ (by decide) (by decide) A w ao cap l h c
theorem H7(A:Nat->Prop)(w:World)(ao:Option Addr)(cap:Nat)(l:List UInt8)(h:Rd Ql A w ao cap l)(c:l.length<=4294967296):
 Calls prog 110 #[.slice ao l.length cap] w λe w'=>(∃a b,e=.returned (.slice a l.length b)/\Own Ql A w w' 5 a b l)/\Bel w w':=
 Cy (r:=Ql) (ρ:=Qa7 110 179 5) Vn ⟨Tryz.f110.name,by decide,func110.trans (congrArg some (by kernel_rfl))⟩ (by decide) (by decide) A w ao cap l h c
theorem Qrd(A:Nat->Prop)(w:World)(ao:Option Addr)(cap:Nat)(l:List ByteArray)(h:Rd Xk A w ao cap l)(c:l.length<=4294967296):
 Calls prog 230 #[.slice ao l.length cap] w λe w'=>(∃a b,e=.returned (.slice a l.length b)/\Own Xk A w w' 9 a b l)/\Bel w w':=
 Cy (r:=Xk) (ρ:=Qa7 230 286 9) Qjk ⟨Tryz.f230.name,by decide,func230.trans (congrArg some (by kernel_rfl))⟩ (by decide) (by decide) A w ao cap l h c
end Go.Proofs.YtkdpmdfcdgphlaaGreat
namespace Go.Po
open Go.Mem
def Qjp:Rp (List Put):=Qw.list
theorem Qn3{A:Nat->Prop}{w:World}{ao:Option Addr}{cap k:Nat}{l:List (List Put)}{x:List Put}(h:Rd Qjp A w ao cap l)(f:l[k]?=some x):
 ∃g off a b,ao=some ⟨g,off,none⟩/\g<w.heap.size/\w.cell? ⟨g,off+k,none⟩=some (.slice a x.length b)/\Rd Qw A w a b x:=by
 obtain⟨g,off,vs,d,i,_,c,e⟩:=h.at f;obtain⟨a,b,rfl,j⟩:=c;refine⟨g,off,a,b,d,i,?_,j⟩;have:=e 0 (by decide);simpa[show Qjp.size=1 from rfl] using this
theorem Nt{α:Type}{a:List (List α)}{k:Nat}{x:List α}(h:a[k]?=some x):(a.take (k+1)).flatten=(a.take k).flatten++x:=by
 rw[List.take_add_one,h];simp
theorem Qn4{α:Type}(a:List (List α))(k:Nat):(a.take k).flatten.length<=a.flatten.length:=by
 have h:a.flatten=(a.take k).flatten++(a.drop k).flatten:=by rw[<-List.flatten_append,List.take_append_drop]
 rw[h,List.length_append];omega
end Go.Po
namespace Go.Proofs.YtkdpmdfcdgphlaaGreat
open Tryz
open Go.RowKit Go.Mem Go.Po
theorem Qre(A:Nat->Prop)(w:World)(n:Nat)(p:n<=4294967296):
 Calls prog 386 #[.slice none 0 0,.int .i64 n] w λe w'=>(∃b c,e=.returned (.slice b 0 c)/\Own Ql A w w' 5 b c [])/\Bel w w':=by
 rcases Nat.eq_zero_or_pos n with rfl|o
 ·refine(Any8.slices_Grow_room Tryz.growB none 0 0 0 w (by omega) (by omega) (by omega) (by omega)).mono ?_
  rintro e w' ⟨rfl,rfl⟩;exact⟨⟨none,0,rfl,Own.nil _ _ _ _ _⟩,Bel.refl _⟩
 ·obtain⟨_,i,z,f,g,q,l,m⟩:=Vn
  refine(Any8.slices_Grow_grow Tryz.growB i z f g (by omega) none 0 0 n [] w (by omega) (by omega) (by rw[l];omega) (by omega) (by simp) (λ_=>rfl) (λa h=>by cases h)).mono ?_;rintro e w' ⟨rfl,rfl⟩;refine⟨⟨_,_,rfl,[],.nil,⟨by simp,Nat.zero_le _,grownCap_le_maxLen w (0+n) 0 5 (by simp only[maxLen];omega),λ_=>⟨w.heap.size,0,_,rfl,by simp,heap_alloc_new w.drew _,?_,λj b b=>by simp at b⟩⟩,λk c=>?_⟩,(Bel.refl w).drew.alloc _⟩
  ·have d:z.cells.size=1:=m
   have h:=grownCap_ge w (0+n) 0 5;have b:grownCap w (0+n) 0 5*1=(0+n-0)*z.cells.size+(grownCap w (0+n) 0 5-(0+n))*z.cells.size:=by rw[d];omega
   show 0+grownCap w (0+n) 0 5*1<=_;rw[b];simp[Builtin.zeroCells];exact Nat.le_refl _
  ·obtain⟨_,a,b,rfl⟩:=c;cases b;exact Nat.le_refl _
theorem Qt1(A:Nat->Prop)(w:World)(n:Nat)(p:n<=4294967296):
 Calls prog 383 #[.slice none 0 0,.int .i64 n] w λe w'=>(∃b c,e=.returned (.slice b 0 c)/\Own Qw A w w' 33 b c [])/\Bel w w':=by
 rcases Nat.eq_zero_or_pos n with rfl|o
 ·refine(Any8.slices_Grow_room Tryz.growP none 0 0 0 w (by omega) (by omega) (by omega) (by omega)).mono ?_
  rintro e w' ⟨rfl,rfl⟩;exact⟨⟨none,0,rfl,Own.nil _ _ _ _ _⟩,Bel.refl _⟩
 ·obtain⟨_,i,z,f,g,q,l,m⟩:=Rj
  refine(Any8.slices_Grow_grow Tryz.growP i z f g (by omega) none 0 0 n [] w (by omega) (by omega) (by rw[l];omega) (by omega) (by simp) (λ_=>rfl) (λa h=>by cases h)).mono ?_;rintro e w' ⟨rfl,rfl⟩;refine⟨⟨_,_,rfl,[],.nil,⟨by simp,Nat.zero_le _,grownCap_le_maxLen w (0+n) 0 33 (by simp only[maxLen];omega),λ_=>⟨w.heap.size,0,_,rfl,by simp,heap_alloc_new w.drew _,?_,λj b b=>by simp at b⟩⟩,λk c=>?_⟩,(Bel.refl w).drew.alloc _⟩
  ·have d:z.cells.size=2:=m
   have h:=grownCap_ge w (0+n) 0 33;have b:grownCap w (0+n) 0 33*2=(0+n-0)*z.cells.size+(grownCap w (0+n) 0 33-(0+n))*z.cells.size:=by rw[d];omega
   show 0+grownCap w (0+n) 0 33*2<=_;rw[b];simp[Builtin.zeroCells];exact Nat.le_refl _
  ·obtain⟨_,a,b,rfl⟩:=c;cases b;exact Nat.le_refl _
theorem Qn5:(∀(A:Nat->Prop) (w:World) (ao:Option Addr) (cap:Nat) (a:List (List UInt8)) (o:Rd Yg A w ao cap a) (b:a.flatten.length<=4294967296),Calls prog 323 #[.slice ao a.length cap] w λe w'=>(∃h l,e=.returned (.slice h a.flatten.length l)/\Own Ql A w w' 5 h l a.flatten)/\Bel w w') ∧
 (∀(A:Nat->Prop) (w:World) (ao:Option Addr) (cap:Nat) (a:List (List Put)) (o:Rd Qjp A w ao cap a) (b:a.flatten.length<=4294967296),Calls prog 316 #[.slice ao a.length cap] w λe w'=>(∃h l,e=.returned (.slice h a.flatten.length l)/\Own Qw A w w' 33 h l a.flatten)/\Bel w w'):=by
 refine⟨have k1:=trivial;?_,have k2:=trivial;?_⟩;all_goals
  intro A w ao cap a o b;have H:=Zh o;have R:=o.small;obtain⟨n,c⟩:=Zx a.length;rw[<-c]at R ⊢;obtain⟨v,z⟩:=Zh2 c b;clear o c b;first|(have k2:=k2;go_enter func316,ntmps316)|(go_enter func323,ntmps323)
  go_wp2;go_loopw[3,5,11] (λs _ i wr=>∃k:Nat,k<=n/\i=.int .i64 k/\s=.int .i64 ((a.take k).flatten.length:Nat)/\w=wr) (λ_ _ i _=>n-(intOf i).toNat)
  case atStart=>exact⟨0,Nat.zero_le _,rfl,rfl,rfl⟩
  case round=>
   obtain⟨k,V,rfl,rfl,rfl⟩:=hrel;by_cases W:k<n
   ·obtain⟨x,g⟩:∃x,a[k]?=some x:=⟨a[k]'(by have:=v.o;omega),by simp⟩
    first|(have k2:=k2;obtain⟨C,off,h,l,rfl,F,c0,_⟩:=Qn3 H.o g)|(obtain⟨C,off,h,l,rfl,F,c0,_⟩:=Md H.o g)
    have G:=Nat.le_trans (Qn4 a (k+1)) z;have p:=congrArg List.length (Nt g);rw[List.length_append]at p;obtain⟨m,b⟩:=Zx ((a.take k).flatten.length);obtain⟨f,d⟩:=Zx ((a.take (k+1)).flatten.length);rw[<-d]at G p;rw[<-b]at p ⊢;have B:=Zh d;have c:wrap64 ((m:Int)+(x.length:Int))=(f:Int):=by rw[p];unfold wrap64;omega
    have q:¬((f:Int)<0):=by omega
    clear b d g p;go_wp2;go_roundw
    case rel=>exact⟨k+1,by omega,by go_num,by rw[<-B.o,c],by trivial⟩
    case measure=>simp[intOf];omega
   ·obtain rfl:k=n:=by omega
    have t:(a.take k).flatten=a.flatten:=by rw[v.o,List.take_length]
    rw[t];have I:=z.o;obtain⟨m,b⟩:=Zx a.flatten.length;rw[<-b]at I ⊢;have B:=Zh b;clear b t;go_wp2_with fail;first|(have k2:=k2;refine(Qt1 A w m I).mono ?_)|(refine(Qre A w m I).mono ?_)
    rintro e X ⟨⟨c,b,rfl,y⟩,q⟩;obtain⟨Q,O⟩:=Zh2 y q;clear y q;go_wp2;first|(have k2:=k2;go_loopw[6,8,27] (λs _ i q=>∃(j:Nat) (c:Option Addr) (b f:Nat),j<=k/\i=.int .i64 j/\s=.slice c f b/\Hid (f=(a.take j).flatten.length)/\Hid (Own Qw A w q 33 c b (a.take j).flatten)/\Hid (Bel w q)) (λ_ _ i _=>k-(intOf i).toNat))|(go_loopw[6,8,27] (λs _ i q=>∃(j:Nat) (c:Option Addr) (b f:Nat),j<=k/\i=.int .i64 j/\s=.slice c f b/\Hid (f=(a.take j).flatten.length)/\Hid (Own Ql A w q 5 c b (a.take j).flatten)/\Hid (Bel w q)) (λ_ _ i _=>k-(intOf i).toNat))
    case atStart=>exact⟨0,c,b,0,Nat.zero_le _,rfl,rfl,Zh rfl,Zh Q,Zh O⟩
    case round=>
     obtain⟨j,c,b,f,T,rfl,rfl,d,D,q⟩:=hrel;by_cases U:j<k
     ·obtain⟨x,g⟩:∃x,a[j]?=some x:=⟨a[j]'(by have:=v.o;omega),by simp⟩
      first|(have k2:=k2;obtain⟨C,off,h,l,rfl,F,c0,y⟩:=Qn3 (H.bel q.o) g)|(obtain⟨C,off,h,l,rfl,F,c0,y⟩:=Md (H.bel q.o) g)
      first|(have k2:=k2;obtain⟨xs,E,J⟩:=y.src (P:=prog) underlying56)|(obtain⟨xs,E,J⟩:=y.src (P:=prog) underlying179)
      obtain⟨M,K,L⟩:=Zh3 g E J;have N:=d.o;have p:=congrArg List.length (Nt g);have G:=Nat.le_trans (Qn4 a (j+1)) z;rw[List.length_append,<-N]at p;rw[p]at G;clear g E J y p N;first|(have k2:=k2;go_wp2_with(at_builtin;go_must (refine Ja (r:=Qw) (A:=A) (w0:=w) _ rfl _ _ 56 56 rfl Rj c b (a.take j).flatten D.o (by show Value.slice c f b=_;rw[d.o]) _ rfl x xs (K.mono λ_ _ _ o=>o) L.o (by have:=d.o;omega) (by omega) q.o ?_);intro N J S g _ p _;have E:=Zh g;have y:=Zh p;clear g p))|(go_wp2_with(at_builtin;go_must (refine Ja (r:=Ql) (A:=A) (w0:=w) _ rfl _ _ 179 179 rfl Vn c b (a.take j).flatten D.o (by show Value.slice c f b=_;rw[d.o]) _ rfl x xs (K.mono λ_ _ _ o=>o) L.o (by have:=d.o;omega) (by omega) q.o ?_);intro N J S g _ p _;have E:=Zh g;have y:=Zh p;clear g p))
      go_roundw
      case rel=>exact⟨j+1,N,J,f+x.length,by omega,by go_num,by rw[d.o];simp,Zh (by rw[Nt M.o,List.length_append,d.o]),Zh (by rw[Nt M.o];exact E.o),y⟩
      case measure=>simp[intOf];omega
     ·obtain rfl:j=k:=by omega
      go_wp2;go_ret;have t:(a.take j).flatten=a.flatten:=by rw[v.o,List.take_length]
      exact⟨⟨c,b,by rw[d.o,t,<-B.o];rfl,by have:=D.o;rwa [t]at this⟩,q.o⟩
def Qc2:=Qn5.1
def Qpp:=Qn5.2
end Go.Proofs.YtkdpmdfcdgphlaaGreat
