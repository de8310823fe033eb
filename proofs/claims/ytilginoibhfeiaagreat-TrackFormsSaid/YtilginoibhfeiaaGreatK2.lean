/- awake of the laws of track; the walk of TrackLater. -/
import Derived.Test.YtilginoibhfeiaaGreatK1
set_option maxRecDepth 100000
set_option maxHeartbeats 16000000
namespace Go.Proofs.YtilginoibhfeiaaGreat
open Go.RowKit
theorem at_eight:atE ⟨0,0,64,0,64⟩ 5 8 0 1=(⟨0,0,64,0,64⟩,0):=by
 have hm:El.may ⟨0,0,64,0,64⟩=true:=by decide
 unfold atE
 rw [if_pos ⟨hm,by decide,by decide,by decide,by decide,by decide⟩]
 have:ticksE 5 8 1=6:=by decide
 rw [this]
 unfold ageE
 rw [if_pos ⟨hm,by decide,by decide⟩,if_neg (by decide)]
 exact growE_zero _ hm
theorem awake19_c (w:World):Calls Tryz.prog 14 #[] w fun e w'=>e = .returned (.bool true)∧Below w.heap.size w w':=by
 have h1:Hid (ballE 0 0 8=(⟨0,0,64,0,64⟩,0)):=show _=_ from rfl
 have h2:=Lib.hid at_eight
 have h3:Hid (ticksE 5 8 1=6):=by show _=_;decide
 go_enter Tryz.func14,Tryz.ntmps14
 go_wp2_with fail
 refine (ellball_v _ _ _ _ _ _ _ _ _ h1.out _).mono ?_;rintro e w1 ⟨rfl,hb1⟩;have s1:=hb1.size
 go_wp2_with fail
 refine (at_v _ _ _ _ _ _ _ _ _ _ _ _ _ _ _ h2.out _).mono ?_;rintro e w2 ⟨rfl,hb2⟩;have z_w2:=hb2.size;(try simp at z_w2);obtain ⟨yw2aa,cw2aa,fw2aa,rw2aa,tw2aa,pw2aa⟩:=bq hb2 (w1.heap.size)
 go_wp2_with fail
 refine (ticks_v _ _ _ _ h3.out _).mono ?_;rintro e w3 ⟨rfl,hb3⟩;have z_w3:=hb3.size;(try simp at z_w3);obtain ⟨yw3aa,cw3aa,fw3aa,rw3aa,tw3aa,pw3aa⟩:=bq hb3 (w1.heap.size);obtain ⟨yw3ba,cw3ba,fw3ba,rw3ba,tw3ba,pw3ba⟩:=bq hb3 (w2.heap.size)
 go_wp2
 go_ret
 exact ⟨rfl,below_byR⟩
end Go.Proofs.YtilginoibhfeiaaGreat
