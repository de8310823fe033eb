/- The walk of the document's Text. -/
import Derived.Test.YtilginoibhfeiaaGreatRC
import Derived.Test.YtilginoibhfeiaaGreatHX
set_option maxRecDepth 100000
set_option maxHeartbeats 16000000
namespace Go.Proofs.YtilginoibhfeiaaGreat
open Go.RowKit
@[go_sem ↓] theorem slice_dg32 (d : Nat) (hd : d < 16) (w : World) :
    (Instr.slice 9 (.string ⟨#[48,49,50,51,52,53,54,55,56,57,97,98,99,100,101,102]⟩) (some (.int .u32 (d:Int))) (some (.int .u32 ((d:Int)+1))) none).run Tryz.prog w = .ok (str [hxd d]) w:=by
 have key:∀ d:Nat,d<16→(ByteArray.mk #[48,49,50,51,52,53,54,55,56,57,97,98,99,100,101,102]).extract d (d+1)=⟨[hxd d].toArray⟩:=by decide
 have:=key d hd
 rw [run_slice_string _ _ _ _ _ _ _ Tryz.underlying9 (by omega) (by omega) (by show (d:Int)+1≤16;omega)]
 rw [show ((d:Int)+1).toNat=d+1 by omega,Int.toNat_natCast,this]
 rfl
theorem nib32 (N i:Nat):N/4294967296^(i/8)%4294967296/2^(4*(i%8))%16=N/16^i%16:=by
 have e1:(4294967296:Nat)^(i/8)=16^(8*(i/8)):=by rw [show (4294967296:Nat)=16^8 from rfl,← Nat.pow_mul]
 have e2:(2:Nat)^(4*(i%8))=16^(i%8):=by rw [Nat.pow_mul]
 have e3:N/16^i=N/16^(8*(i/8))/16^(i%8):=by rw [Nat.div_div_eq_div_mul,← Nat.pow_add,Nat.div_add_mod]
 rw [e1,e2,e3]
 generalize N/16^(8*(i/8))=K
 have e4:(4294967296:Nat)=16^(i%8)*(16*16^(7-i%8)):=by
  rw [show (4294967296:Nat)=16^(i%8+(1+(7-i%8))) from by rw [show i%8+(1+(7-i%8))=8 by omega],Nat.pow_add,Nat.pow_add,Nat.pow_one]
 rw [e4,Nat.mod_mul_right_div_self,Nat.mod_mul_right_mod]
theorem and15_u32 (v:Nat) (h:v<4294967296):bits .and .u32 (v:Int) 15=((v%16:Nat):Int):=and_low_u32 v 4 h (by decide)
theorem hx_gain (N i d:Nat) (hd:N/16^i%16=d) (h:N/16^(i+1)≠0∨d≠0):hx (N/16^(i+1)) ++ [hxd d]=hx (N/16^i):=by
 have e:N/16^(i+1)=N/16^i/16:=by rw [Nat.div_div_eq_div_mul,Nat.pow_succ]
 rw [e] at h ⊢
 rw [← hd] at h ⊢
 rw [hx_pos (n:=N/16^i) (by omega)]
theorem hx_lack (N i d:Nat) (hd:N/16^i%16=d) (h:N/16^(i+1)=0) (h2:d=0):hx (N/16^i) = []:=by
 have e:N/16^(i+1)=N/16^i/16:=by rw [Nat.div_div_eq_div_mul,Nat.pow_succ]
 rw [e] at h
 rw [show N/16^i=0 by omega,hx_zero]
theorem text_main (x:WI) (A:Option Addr) (cap:Nat) (w:World) (ho:x.ov=false) (h0:x.sz≠0) (hs:Rd w (.slice A (dg x.sz).length cap) (dg x.sz)) :
  Calls Tryz.prog 95 #[.agg #[.bool x.ng,.bool false,.slice A (dg x.sz).length cap]] w fun e w'=>e = .returned (str (txt x.v))∧Below w.heap.size w w':=by
 have RX:=Lib.hid (fun i hi=>hs.at' (n:=(dg x.sz).length) i hi)
 have hX0:Hid (∀ i,(dg x.sz).getD i 0=x.sz/4294967296^i%4294967296):=fun i=>dg_getD x.sz i
 have hfew:=dg_few x
 have hlt:=dg_lt x.sz
 have hne:¬ (dg x.sz).length=0:=fun e=>h0 ((dg_nil _).1 (List.length_eq_zero_iff.1 e))
 have HT:Hid (txt x.v=if x.ng then 45 :: hx x.sz else hx x.sz):=by
  have:=x.txt_eq ho
  unfold hex at this
  rw [if_neg h0] at this
  exact this
 obtain ⟨N,hN⟩:∃ N,x.sz=N:=⟨_,rfl⟩
 obtain ⟨n,hn⟩:∃ n,(dg x.sz).length=n:=⟨_,rfl⟩
 rw [hn] at RX hfew hlt hne ⊢
 rw [hN] at hX0 HT hlt RX
 obtain ⟨s,hsg⟩:∃ s,x.ng=s:=⟨_,rfl⟩
 rw [hsg] at HT ⊢
 have H0:Hid (N/16^(8*n)=0):=by
  refine Nat.div_eq_of_lt ?_
  rw [Nat.pow_mul];exact hlt
 have HL:Hid (∀ k,(hx (N/16^k)).length≤256):=fun k=>hx_len 256 _ (by
  refine Nat.lt_of_le_of_lt (Nat.div_le_self _ _) (Nat.lt_of_lt_of_le hlt ?_)
  rw [show (16:Nat)^256=4294967296^32 by rw [show (4294967296:Nat)=16^8 from rfl,← Nat.pow_mul]]
  exact Nat.pow_le_pow_right (by decide) hfew)
 have B0:=Lib.hid (Blk.new w #[.bool s,.bool false,.slice A n cap] 65)
 have HB:=Lib.hid ((Below.refl w.heap.size w).alloc (Nat.le_refl _) (.cells #[.bool s,.bool false,.slice A n cap] 65))
 clear hs h0 hlt hn hN hsg
 go_enter Tryz.func95,Tryz.ntmps95
 go_wp2_with fail
 go_loopw [3,4] (fun t3 t4 wr=>∃ k:Nat,k≤8*n∧t4 = .int .i64 ((k:Int)-1)∧t3=str (hx (N/16^k))∧Hid (Below w.heap.size w wr)∧Hid (Blk wr w.heap.size #[.bool s,.bool false,.slice A n cap] 65)) (fun _ t4 _=>(intOf t4+1).toNat)
 case atStart =>
  refine ⟨8*n,Nat.le_refl _,by first|rfl|(congr 1;push_cast;omega)|(simp;done)|(congr 1;unfold wrap64;omega),?_,HB,B0⟩
  rw [H0.out,hx_zero];rfl
 case round =>
  obtain ⟨k,hk,rfl,rfl,hb,q0⟩:=hrel
  have e0:wr.cell? ⟨w.heap.size,0,none⟩=some (.bool s):=q0.out.cell (i:=0) rfl
  have e2:wr.cell? ⟨w.heap.size,2,none⟩=some (.slice A n cap):=q0.out.cell (i:=2) rfl
  rcases k with _|i
  ·have k1:¬ ((0:Int)≤((0:Nat):Int)-1):=by decide
   have hl:=HL.out 0
   have hp:N/16^0=N:=by simp
   rw [hp] at hl ⊢
   have hl2:(hx N).length+1<9223372036854775808:=by omega
   obtain ⟨L,hL⟩:∃ L,hx N=L:=⟨_,rfl⟩
   rw [hL] at hl2 HT ⊢
   cases s with
   | true =>
    go_wp2_with fail
    go_ret
    exact ⟨by rw [HT.out];rfl,hb.out⟩
   | false =>
    go_wp2_with fail
    go_ret
    exact ⟨by rw [HT.out];rfl,hb.out⟩
  ·obtain ⟨b,o,rfl,hbb,cA,uA⟩:=RX.out (i/8) (by omega)
   have cA':=(hb.out.cell (p:=⟨b,o+i/8,none⟩) hbb).trans cA
   rw [hX0.out] at cA' uA
   obtain ⟨v,hv⟩:∃ v,N/4294967296^(i/8)%4294967296=v:=⟨_,rfl⟩
   have hnib:=nib32 N i
   rw [hv] at cA' uA hnib
   obtain ⟨q,hq⟩:∃ q,i/8=q:=⟨_,rfl⟩
   obtain ⟨r,hr⟩:∃ r,i%8=r:=⟨_,rfl⟩
   rw [hq] at cA'
   rw [hr] at hnib
   have hqn:(q:Int)<(n:Int):=by omega
   have e1:(((i+1:Nat):Int)-1)=(i:Int):=by omega
   have tq:(i:Int).tdiv 8=(q:Int):=by rw [Int.tdiv_eq_ediv_of_nonneg (by omega)];omega
   have tr:(i:Int).tmod 8=(r:Int):=by rw [Int.tmod_eq_emod_of_nonneg (by omega)];omega
   have q0':(0:Int)≤(q:Int):=by omega
   have r8:r<8:=by omega
   obtain ⟨d,hd⟩:∃ d,N/16^i%16=d:=⟨_,rfl⟩
   have hd16:d<16:=by rw [← hd];exact Nat.mod_lt _ (by decide)
   obtain ⟨g,hg⟩:∃ g,4*r=g:=⟨_,rfl⟩
   have g32:g<32:=by omega
   have hgi:(4:Int)*(r:Int)=(g:Int):=by omega
   have hand:bits .and .u32 ((v:Int)/2^g) 15=(d:Int):=by
    have e:((v:Int)/2^g)=((v/2^g:Nat):Int):=by rw [Int.natCast_ediv,Int.natCast_pow];rfl
    rw [e,and15_u32 _ (Nat.lt_of_le_of_lt (Nat.div_le_self _ _) uA),← hg,hnib,hd]
   have MORE:=Lib.hid (hx_gain N i d hd)
   have NONE:=Lib.hid (hx_lack N i d hd)
   have hl:=HL.out (i+1)
   have hl2:(hx (N/16^(i+1))).length+1<9223372036854775808:=by omega
   have HI:Hid (i≤8*n):=by show i≤8*n;omega
   have k0:(0:Int)≤(i:Int):=by omega
   have hwi:wrap64 ((i:Int)-1)=(i:Int)-1:=by unfold wrap64;omega
   rw [e1]
   clear cA hv hq hr hd hg hnib hk
   by_cases hz:N/16^(i+1)=0
   ·have HZ:=Lib.hid hz
    rw [hz,hx_zero] at MORE hl hl2 ⊢
    clear hz
    by_cases hd0:d=0
    ·subst hd0
     go_wp2_with fail
     exact ⟨⟨i,HI.out,by first|rfl|rw [hwi],by rw [NONE.out HZ.out rfl],hb,q0⟩,by simp [intOf] <;> omega⟩
    ·have hd1:(0:Int)<(d:Int):=by omega
     have HD:=Lib.hid hd0
     clear hd0
     go_wp2_with fail
     exact ⟨⟨i,HI.out,by first|rfl|rw [hwi],by rw [← MORE.out (.inr HD.out)];rfl,hb,q0⟩,by simp [intOf] <;> omega⟩
   ·have hne2:(hx (N/16^(i+1))).isEmpty=false:=by rw [List.isEmpty_eq_false_iff];exact fun h=>hz (hx_nil.1 h)
    have HZ:=Lib.hid hz
    clear hz
    obtain ⟨L,hL⟩:∃ L,hx (N/16^(i+1))=L:=⟨_,rfl⟩
    rw [hL] at MORE hl2 hne2 ⊢
    clear hL hl
    go_wp2_with fail
    exact ⟨⟨i,HI.out,by first|rfl|rw [hwi],by rw [← MORE.out (.inl HZ.out)],hb,q0⟩,by simp [intOf] <;> omega⟩
theorem text_r (v:Value) (x:WI) (w:World) (hv:BigIs w v x) :
  Calls Tryz.prog 95 #[v] w fun e w'=>e = .returned (str (txt x.v))∧Below w.heap.size w w':=by
 obtain ⟨A,cap,rfl,hs⟩:=hv.opened
 cases ho:x.ov with
 | true =>
  have e:Hid (x.v=none):=by unfold WI.ov at ho;exact Option.isNone_iff_eq_none.1 ho
  clear hs hv
  go_enter Tryz.func95,Tryz.ntmps95
  go_wp2_with fail
  go_ret
  exact ⟨by rw [e.out];rfl,below_by⟩
 | false =>
  by_cases h0:x.sz=0
  · have HT : Hid (txt x.v = [48]) := by
      have:=x.txt_eq ho
      have hng:x.ng=false:=by
       cases hn:x.ng with
       | false=>rfl
       | true=>exact absurd h0 (WI.ng_sz x hn)
      rw [hng,h0] at this
      exact this
    have hz:(dg x.sz).length=0:=by rw [h0,dg_zero];rfl
    rw [hz]
    clear hs hv h0 hz
    go_enter Tryz.func95,Tryz.ntmps95
    go_wp2_with fail
    go_ret
    exact ⟨by rw [HT.out];rfl,below_by⟩
  ·exact text_main x A cap w ho h0 hs
end Go.Proofs.YtilginoibhfeiaaGreat
