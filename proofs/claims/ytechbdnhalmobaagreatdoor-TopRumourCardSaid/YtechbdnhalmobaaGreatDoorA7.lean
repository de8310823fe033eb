/- Laws and walks that the claim names. -/
import Derived.Test.YtechbdnhalmobaaGreatDoorA6
import Derived.Shelf.SlIterI.Nil
import Derived.Shelf.SortM.Plain
import Derived.Shelf.SortM.SortNone
namespace Go.Proofs.YtechbdnhalmobaaGreatDoor
set_option linter.unusedSimpArgs false
set_option linter.unusedVariables false
open Go.RowKit Go.Maps Go.Sort Go.Shelf
def keysA_ren:Go.Shelf.Ren:=⟨fun|7=>58|10=>125|n=>n,fun|23=>125|26=>3|3=>99|28=>123|0=>0|27=>122|33=>67|4=>4|n=>n,fun|n=>n⟩
theorem keysA:Go.Proofs.SlLaysZI.n7 Tryz.prog keysA_ren:={ mixed:=by kernel_rfl,f7:=⟨Tryz.f58.name,by decide,Tryz.func58.trans (congrArg some (by kernel_rfl))⟩,f10:=⟨Tryz.f125.name,by decide,Tryz.func125.trans (congrArg some (by kernel_rfl))⟩,t0:=Tryz.underlying0,a0:=Tryz.isAgg0,z0:=Tryz.sizeOf0,v0:=Tryz.zeroValue0,t4:=Tryz.underlying4,a4:=Tryz.isAgg4,z4:=Tryz.sizeOf4,v4:=Tryz.zeroValue4,t23:=Tryz.underlying125,a23:=Tryz.isAgg125,z23:=Tryz.sizeOf125,v23:=Tryz.zeroValue125,t26:=Tryz.underlying3,a26:=Tryz.isAgg3,z26:=Tryz.sizeOf3,v26:=Tryz.zeroValue3,t27:=Tryz.underlying122,a27:=Tryz.isAgg122,z27:=Tryz.sizeOf122,v27:=Tryz.zeroValue122,t28:=Tryz.underlying123,a28:=Tryz.isAgg123,z28:=Tryz.sizeOf123,v28:=Tryz.zeroValue123,t33:=Tryz.underlying67,a33:=Tryz.isAgg67,z33:=Tryz.sizeOf67,v33:=Tryz.zeroValue67 }
def sortedA_ren:Go.Shelf.Ren:=⟨fun|6=>57|8=>123|9=>124|11=>176|13=>178|12=>177|23=>239|24=>240|14=>230|15=>231|16=>232|17=>233|18=>234|19=>235|20=>236|21=>237|22=>238|25=>293|26=>294|27=>295|28=>296|29=>297|30=>298|31=>332|n=>n,fun|26=>3|28=>123|24=>120|0=>0|3=>3|37=>233|48=>256|50=>53|4=>4|40=>326|39=>325|45=>260|5=>5|9=>9|51=>365|55=>369|57=>406|58=>407|33=>67|n=>n,fun|n=>n⟩
theorem sortedA:Go.Proofs.SlLaysZI.n6 Tryz.prog sortedA_ren:={ mixed:=by kernel_rfl,f6:=⟨Tryz.f57.name,by decide,Tryz.func57.trans (congrArg some (by kernel_rfl))⟩,f8:=⟨Tryz.f123.name,by decide,Tryz.func123.trans (congrArg some (by kernel_rfl))⟩,f11:=⟨Tryz.f176.name,by decide,Tryz.func176.trans (congrArg some (by kernel_rfl))⟩,t0:=Tryz.underlying0,a0:=Tryz.isAgg0,z0:=Tryz.sizeOf0,v0:=Tryz.zeroValue0,t24:=Tryz.underlying120,a24:=Tryz.isAgg120,z24:=Tryz.sizeOf120,v24:=Tryz.zeroValue120,t26:=Tryz.underlying3,a26:=Tryz.isAgg3,z26:=Tryz.sizeOf3,v26:=Tryz.zeroValue3,t28:=Tryz.underlying123,a28:=Tryz.isAgg123,z28:=Tryz.sizeOf123,v28:=Tryz.zeroValue123,i26:=by kernel_rfl }
def sortA_ren:Go.Shelf.Ren:=⟨fun|5=>124|8=>178|7=>177|19=>239|20=>240|10=>230|11=>231|12=>232|13=>233|14=>234|15=>235|16=>236|17=>237|18=>238|30=>293|31=>294|32=>295|33=>296|34=>297|35=>298|40=>332|n=>n,fun|23=>120|25=>3|3=>3|32=>233|22=>120|0=>0|44=>256|46=>53|4=>4|36=>326|35=>325|41=>260|5=>5|9=>9|53=>365|57=>369|63=>406|64=>407|n=>n,fun|n=>n⟩
theorem sortA:Go.Proofs.SlLaysM.n5 Tryz.prog sortA_ren:={ mixed:=by kernel_rfl,f5:=⟨Tryz.f124.name,by decide,Tryz.func124.trans (congrArg some (by kernel_rfl))⟩,f7:=⟨Tryz.f177.name,by decide,Tryz.func177.trans (congrArg some (by kernel_rfl))⟩,f8:=Tryz.func178.trans (congrArg some (by kernel_rfl)),f10:=⟨Tryz.f230.name,by decide,Tryz.func230.trans (congrArg some (by kernel_rfl))⟩,f11:=⟨Tryz.f231.name,by decide,Tryz.func231.trans (congrArg some (by kernel_rfl))⟩,f12:=⟨Tryz.f232.name,by decide,Tryz.func232.trans (congrArg some (by kernel_rfl))⟩,f13:=⟨Tryz.f233.name,by decide,Tryz.func233.trans (congrArg some (by kernel_rfl))⟩,f14:=⟨Tryz.f234.name,by decide,Tryz.func234.trans (congrArg some (by kernel_rfl))⟩,f15:=⟨Tryz.f235.name,by decide,Tryz.func235.trans (congrArg some (by kernel_rfl))⟩,f16:=⟨Tryz.f236.name,by decide,Tryz.func236.trans (congrArg some (by kernel_rfl))⟩,f17:=⟨Tryz.f237.name,by decide,Tryz.func237.trans (congrArg some (by kernel_rfl))⟩,f18:=⟨Tryz.f238.name,by decide,Tryz.func238.trans (congrArg some (by kernel_rfl))⟩,f19:=Tryz.func239.trans (congrArg some (by kernel_rfl)),f20:=Tryz.func240.trans (congrArg some (by kernel_rfl)),f30:=⟨Tryz.f293.name,by decide,Tryz.func293.trans (congrArg some (by kernel_rfl))⟩,f31:=Tryz.func294.trans (congrArg some (by kernel_rfl)),f32:=Tryz.func295.trans (congrArg some (by kernel_rfl)),f33:=⟨Tryz.f296.name,by decide,Tryz.func296.trans (congrArg some (by kernel_rfl))⟩,f34:=⟨Tryz.f297.name,by decide,Tryz.func297.trans (congrArg some (by kernel_rfl))⟩,f35:=⟨Tryz.f298.name,by decide,Tryz.func298.trans (congrArg some (by kernel_rfl))⟩,f40:=⟨Tryz.f332.name,by decide,Tryz.func332.trans (congrArg some (by kernel_rfl))⟩,t0:=Tryz.underlying0,a0:=Tryz.isAgg0,z0:=Tryz.sizeOf0,v0:=Tryz.zeroValue0,t3:=Tryz.underlying3,a3:=Tryz.isAgg3,z3:=Tryz.sizeOf3,v3:=Tryz.zeroValue3,t4:=Tryz.underlying4,a4:=Tryz.isAgg4,z4:=Tryz.sizeOf4,v4:=Tryz.zeroValue4,t5:=Tryz.underlying5,a5:=Tryz.isAgg5,z5:=Tryz.sizeOf5,v5:=Tryz.zeroValue5,t9:=Tryz.underlying9,a9:=Tryz.isAgg9,z9:=Tryz.sizeOf9,v9:=Tryz.zeroValue9,t22:=Tryz.underlying120,a22:=Tryz.isAgg120,z22:=Tryz.sizeOf120,v22:=Tryz.zeroValue120,t23:=Tryz.underlying120,a23:=Tryz.isAgg120,z23:=Tryz.sizeOf120,v23:=Tryz.zeroValue120,t25:=Tryz.underlying3,a25:=Tryz.isAgg3,z25:=Tryz.sizeOf3,v25:=Tryz.zeroValue3,t32:=Tryz.underlying233,a32:=Tryz.isAgg233,z32:=Tryz.sizeOf233,v32:=Tryz.zeroValue233,t35:=Tryz.underlying325,a35:=Tryz.isAgg325,z35:=Tryz.sizeOf325,v35:=Tryz.zeroValue325,t36:=Tryz.underlying326,a36:=Tryz.isAgg326,z36:=Tryz.sizeOf326,v36:=Tryz.zeroValue326,t41:=Tryz.underlying260,a41:=Tryz.isAgg260,z41:=Tryz.sizeOf260,v41:=Tryz.zeroValue260,t44:=Tryz.underlying256,a44:=Tryz.isAgg256,z44:=Tryz.sizeOf256,v44:=Tryz.zeroValue256,t46:=Tryz.underlying53,a46:=Tryz.isAgg53,z46:=Tryz.sizeOf53,v46:=Tryz.zeroValue53,t53:=Tryz.underlying365,a53:=Tryz.isAgg365,z53:=Tryz.sizeOf365,v53:=Tryz.zeroValue365,t57:=Tryz.underlying369,a57:=Tryz.isAgg369,z57:=Tryz.sizeOf369,v57:=Tryz.zeroValue369,t63:=Tryz.underlying406,a63:=Tryz.isAgg406,z63:=Tryz.sizeOf406,v63:=Tryz.zeroValue406,t64:=Tryz.underlying407,a64:=Tryz.isAgg407,z64:=Tryz.sizeOf407,v64:=Tryz.zeroValue407 }
theorem sortsA (m:Nat):AnyZI.SortsIn Tryz.prog sortedA_ren Fence.wide m :=
 ⟨fun blk off cap ss W hH hblk hsz=>callsIn_wide.2 (AnyM.slices_Sort_int sortA blk off cap ss W hH hblk hsz),
  fun p cap W=>callsIn_wide.2 (AnyM.slices_Sort_int_none sortA p cap W)⟩
theorem keys_c (mb:Option Nat) (w:World):Calls Tryz.prog 58 #[.map mb] w fun e w'=>e = .returned (.func (.func 125) #[] #[.pointer (some ⟨w.heap.size,0,none⟩)])∧w'=w.alloc (.cells #[.map mb] 125) :=
 callsIn_wide.1 (AnyZI.keys_in keysA Fence.wide 5 trivial rfl mb w)
theorem sorted_raw (b:Nat) (M:List (Int × Value)) (w:World) (hM:MapAt w b M) (hl:M.length≤64) :
  Calls Tryz.prog 57 #[.func (.func 125) #[] #[.pointer (some ⟨w.heap.size,0,none⟩)]] (w.alloc (.cells #[.map (some b)] 125)) fun e w'=>∃ (v:Value) (ss:List Int),e = .returned v∧ss.Perm (intKeys (mapD M)) ∧
   w'.ownsRow (w.alloc (.cells #[.map (some b)] 125)).heap.size 3 1 v ss.length ((ss.mergeSort (fun x y=>decide (x≤y))).map encZ)∧(v = .slice none 0 0↔ss = [])∧Below (w.alloc (.cells #[.map (some b)] 125)).heap.size (w.alloc (.cells #[.map (some b)] 125)) w':=by
 have hbl:=hM.lt
 have hsz:Maps.size (mapD M)=M.length:=by simp [mapD,Maps.size]
 have hseq:SeqGives Fence.wide 2 Tryz.prog 125 #[.pointer (some ⟨w.heap.size,0,none⟩)] encZ (fun ss=>ss.Perm (intKeys (mapD M))) (Maps.size (mapD M)) (w.alloc (.cells #[.map (some b)] 125)) :=
  AnyZI.keys_gives (ρ:=keysA_ren) { keysA with } Fence.wide _ trivial rfl (by omega) w.heap.size b M.length (mapD M) _ (by simp) (by simp) (by
   obtain ⟨es,clock,hb,Ft,hs,hD⟩:=hM
   exact ⟨es,clock,(Below.heap_alloc _ _ b hbl).trans hb,Ft,hs,hD⟩)
 exact callsIn_wide.1 (AnyZI.sorted_in sortedA Fence.wide 5 trivial trivial trivial trivial rfl (by omega) (sortsA _) (enters_of Tryz.func124 (by kernel_rfl) rfl) 125 #[.pointer (some ⟨w.heap.size,0,none⟩)] trivial (enters_of Tryz.func125 (by kernel_rfl) rfl) _ _ (by rw [hsz];simp [maxLen];omega) (by rw [hsz];omega) _ hseq)
theorem keys_sorted {α:Type} (f : α→Value) (m:List (Int × α)) (ha:m.Pairwise (fun p q=>p.1<q.1)) (ss:List Int) (hp:ss.Perm (intKeys (mapD (m.map fun p=>(p.1,f p.2))))) :
  ss.mergeSort (fun x y=>decide (x≤y))=m.map (·.1):=by
 have e:intKeys (mapD (m.map fun p=>(p.1,f p.2)))=m.map (·.1):=by
  unfold mapD intKeys
  simp only [List.map_map]
  rfl
 rw [e] at hp
 refine List.Perm.eq_of_pairwise (le:=fun x y:Int=>x≤y) (fun a b _ _ h1 h2=>Int.le_antisymm h1 h2) ?_ ?_ ((List.mergeSort_perm _ _).trans hp)
 ·have h:=List.pairwise_mergeSort (le:=fun x y:Int=>decide (x≤y)) (fun a b c h1 h2=>by simp at *;omega) (fun a b=>by simp;omega) ss
  exact h.imp (fun h=>by simpa using h)
 ·rw [List.pairwise_map]
  exact ha.imp (fun h=>Int.le_of_lt h)
end Go.Proofs.YtechbdnhalmobaaGreatDoor
