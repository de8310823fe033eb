/- The walks of package wide's up, down: shifts of sizes. The walks of math/bits' LeadingZeros64, Div64. The walk of package wide's step: one digit of a quotient. The walk of package wide's step: one digit of a quotient. The walk of package wide's divide: the cases of a smaller number, and of one word. The walk of package wide's divide: the general case; Div. The walk of package wide's divide: the general case. The walks of package wide's Div, Cmp, Int64. -/
import Derived.Test.YtechbdnhalmobaaGreatDoorBW
import Derived.Laws.Bits64b
import Derived.Deep.CutBlock
import Derived.Lib.QuietBelow
import Derived.BigRegion
import Derived.Laws.CopyOwn
set_option maxRecDepth 100000
set_option maxHeartbeats 16000000
namespace Go.Proofs.YtechbdnhalmobaaGreatDoor
set_option linter.unusedSimpArgs false
set_option linter.unusedVariables false
open Go.RowKit

theorem shl_u64 (x r:Nat):IntKind.u64.wrap ((x:Int)*2^r)=((x*2^r%18446744073709551616:Nat):Int):=by
 have e:((x*2^r:Nat):Int)=(x:Int)*2^r:=by rw [Int.natCast_mul,Int.natCast_pow];rfl
 rw [IntKind.wrap_u64,← e];omega
theorem blk_down {w:World} {b n M i v:Nat} {t:TypeId} (h:Blk w b (rowW n (M/2^(64*(i+1))*2^(64*(i+1)))) t) (hv:v=wdn M i) :
  Blk (w.setCell ⟨b,i,none⟩ (.int .u64 (v:Int))) b (rowW n (M/2^(64*i)*2^(64*i))) t:=by
 subst hv;rw [← setw_down,← rowW_set _ _ _ _ (wdn_lt M i)];exact h.setCell_same _ _
theorem blk_down2 {w:World} {b n M i v:Nat} {t:TypeId} {x:Value} (h:Blk w b (rowW n (M/2^(64*(i+1))*2^(64*(i+1)))) t) (hv:v=wdn M i) :
  Blk ((w.setCell ⟨b,i,none⟩ x).setCell ⟨b,i,none⟩ (.int .u64 (v:Int))) b (rowW n (M/2^(64*i)*2^(64*i))) t:=by
 subst hv;rw [← setw_down,← rowW_set _ _ _ _ (wdn_lt M i)]
 have:=(h.setCell_same i x).setCell_same i (.int .u64 (wdn M i:Int))
 exact this.of_eq (by apply Array.ext_getElem?;intro j;by_cases hj:i=j <;> simp [hj,Array.getElem?_setIfInBounds])
theorem or_u64 (a c g:Nat) (x:Int) (hx:x=(c:Int)) (ha:a<18446744073709551616) (hc:c<18446744073709551616):bits .or .u64 (a:Int) (x/2^g)=((a ||| (c/2^g):Nat):Int):=by
 have e:x/2^g=((c/2^g:Nat):Int):=by rw [hx,Int.natCast_ediv,Int.natCast_pow];rfl
 rw [e,bits_or_u64_nat _ _ ha (Nat.lt_of_le_of_lt (Nat.div_le_self _ _) hc)]
theorem blk_fill {w:World} {b n M f v:Nat} {t:TypeId} (h:Blk w b (rowW n (M%2^(64*f))) t) (hv:v=wdn M f) :
  Blk (w.setCell ⟨b,f,none⟩ (.int .u64 (v:Int))) b (rowW n (M%2^(64*(f+1)))) t:=by
 subst hv;rw [← rowW_fill];exact h.setCell_same _ _
theorem blk_fill2 {w:World} {b n M f v:Nat} {t:TypeId} {x:Value} (h:Blk w b (rowW n (M%2^(64*f))) t) (hv:v=wdn M f) :
  Blk ((w.setCell ⟨b,f,none⟩ x).setCell ⟨b,f,none⟩ (.int .u64 (v:Int))) b (rowW n (M%2^(64*(f+1)))) t:=by
 subst hv;rw [← rowW_fill]
 have:=(h.setCell_same f x).setCell_same f (.int .u64 (wd M f))
 exact this.of_eq (by apply Array.ext_getElem?;intro j;by_cases hj:f=j <;> simp [hj,Array.getElem?_setIfInBounds])
theorem mod64_lt (x:Nat):x%18446744073709551616<18446744073709551616:=by omega
theorem up_c (b o N k:Nat) (w:World) (hk:k<1024) (hx:RowAt w b o N) :
  Calls Tryz.prog 266 #[.pointer (some ⟨b,o,none⟩),.int .i64 (k:Int)] w fun e w'=>e = .returned (.agg (rowW 16 (N*2^k)))∧Below w.heap.size w w':=by
 obtain ⟨d,r,hd,hr,hkd⟩:∃ d r,d<16∧r<64∧k=64*d+r:=⟨k/64,k%64,by omega,by omega,by omega⟩
 have HK:=Lib.hid hkd
 have n1:k/64=d:=by omega
 have n2:k%64=r:=by omega
 have q3:(k:Int)/64=d:=by omega
 have q4:(k:Int)%64=r:=by omega
 have q1:(k:Int).tdiv 64=d:=by rw [Int.tdiv_eq_ediv_of_nonneg (by omega)];exact q3
 have q2:(k:Int).tmod 64=r:=by rw [Int.tmod_eq_emod_of_nonneg (by omega)];exact q4
 clear hkd
 go_enter Tryz.func266,Tryz.ntmps266
 go_wp2
 go_loopw [6] (fun i wr=>∃ j:Nat,d≤j∧j≤16∧i = .int .i64 ((j:Int)-1)∧Below w.heap.size w wr∧Blk wr (w.heap.size+1) (rowW 16 (N*2^k/2^(64*j)*2^(64*j))) 151∧Blk wr w.heap.size (rowW 16 0) 151) (fun i _=>(intOf i+1).toNat)
 case atStart =>
  refine ⟨16,by omega,by omega,rfl,((Below.refl _ _).alloc (Nat.le_refl _) _).alloc (by simp) _,?_,?_⟩
  ·have:=rowW_mod 16 (N*2^k/2^(64*16)*2^(64*16))
   rw [Nat.mul_mod_left] at this
   rw [← this,rowW_zero16];exact Blk.new' _ _ _ (by simp)
  ·rw [rowW_zero16];exact (Blk.new _ _ _).alloc _
 case round =>
  obtain ⟨j,hj0,hj,rfl,hb,h1,h0⟩:=hrel
  by_cases hlt:d<j
  ·obtain ⟨i,rfl⟩:∃ i,j=i+1:=⟨j-1,by omega⟩
   have c1:wr.cell? ⟨b,o+(i-d),none⟩=some (.int .u64 (wd N (i-d))):=(hx.below hb (i-d) (by omega)).1
   have c3:wr.cell? ⟨w.heap.size+1,i,none⟩=some (.int .u64 (wd (N*2^k/2^(64*(i+1))*2^(64*(i+1))) i)):=h1.cell (rowW_get _ _ _ (by omega))
   have c4:wr.frozen? ⟨w.heap.size+1,i,none⟩=false:=h1.frozen i
   have i1:(d:Int)≤i:=by omega
   have i2:(0:Int)≤(i:Int)-d:=by omega
   have i3:(i:Int)-d<16:=by omega
   have i4:(i:Int)<16:=by omega
   have i5:wrap64 ((i:Int)-d)=(i:Int)-d:=by unfold wrap64;omega
   have i6:((i:Int)-d).toNat=i-d:=by omega
   have n1:w.heap.size+1≠b:=by have:=hx.lt;omega
   have HB:=Lib.hid hb
   have HH1:=Lib.hid h1
   have HH0:=Lib.hid h0
   clear hb h1 h0
   have e0:((i+1:Nat):Int)-1=(i:Int):=by omega
   rw [e0]
   obtain ⟨v,hv⟩:∃ v,v=wdn N (i-d)*2^r%18446744073709551616:=⟨_,rfl⟩
   have s1:IntKind.u64.wrap (wd N (i-d)*2^r)=(v:Int):=by rw [hv];exact shl_u64 _ _
   have hvl:=Lib.hid (hv ▸ mod64_lt (wdn N (i-d)*2^r))
   have HV:=Lib.hid hv
   clear hv
   by_cases hr0:r=0
   ·have hr1:¬ 0<r:=by omega
    have hq:Hid (v=wdn (N*2^k) i):=by
     show _=_
     rw [HV.out,HK.out,hr0,Nat.pow_zero,Nat.mul_one,Nat.add_zero,Nat.mod_eq_of_lt (wdn_lt _ _)]
     have:=wdn_shift N d (i-d)
     rw [show i-d+d=i by omega] at this
     exact this.symm
    clear hr0
    go_wp2
    refine ⟨⟨i,by omega,by omega,rfl,?_,?_,?_⟩,(by first|(simp [intOf];done)|(simp [intOf];omega))⟩
    ·exact HB.out.setCell (by simp) _
    ·exact blk_down HH1.out hq.out
    ·exact HH0.out.setCell_other (by simp) _
   ·have hr1:0<r:=by omega
    by_cases hdi:d<i
    ·obtain ⟨m,hm⟩:∃ m,i=d+m+1:=⟨i-d-1,by omega⟩
     obtain ⟨g,hg⟩:∃ g,g+r=64:=⟨64-r,by omega⟩
     have x0:IntKind.i64.wrap (d:Int)=d:=by rw [IntKind.wrap_i64];omega
     have x1:IntKind.i64.wrap ((i:Int)-d)=(i:Int)-d:=by rw [IntKind.wrap_i64];omega
     have x2:IntKind.i64.wrap ((i:Int)-d-1)=(m:Int):=by rw [IntKind.wrap_i64];omega
     have x3:IntKind.i64.wrap (64-(r:Int))=(g:Int):=by rw [IntKind.wrap_i64];omega
     have x4:(0:Int)≤(m:Int):=by omega
     have x5:(m:Int)<16:=by omega
     have x6:(0:Int)≤(g:Int):=by omega
     have x7:(g:Int)<64:=by omega
     have hdi':(d:Int)<i:=by omega
     have c5:wr.cell? ⟨b,o+m,none⟩=some (.int .u64 (wd N m)):=(hx.below HB.out m (by omega)).1
     obtain ⟨v2,hv2⟩:∃ v2,v2=v ||| (wdn N m/2^g):=⟨_,rfl⟩
     have y1:bits .or .u64 (v:Int) (wd N m/2^g)=(v2:Int):=by rw [hv2];exact or_u64 _ _ _ _ rfl hvl.out (wdn_lt _ _)
     have hq:Hid (v2=wdn (N*2^k) i):=by
      show _=_
      have h1:=wdn_up_or N r m (by omega)
      have h2:=wdn_shift (N*2^r) d (m+1)
      rw [hv2,HV.out,HK.out,show i-d=m+1 by omega,show g=64-r by omega,h1,← h2,Nat.mul_assoc,← Nat.pow_add]
      congr 1
      ·congr 2;omega
      ·omega
     clear hm hg hv2
     go_wp2
     refine still_tail 18 (by kernel_rfl) (by kernel_rfl) ?_
     simp only [List.take_succ_cons,List.take_zero,List.drop_succ_cons,List.drop_zero];(repeat still_step);(try refine wpStill_nil ?_)
     go_wp2
     refine ⟨⟨i,by omega,by omega,rfl,?_,?_,?_⟩,(by first|(simp [intOf];done)|(simp [intOf];omega))⟩
     ·exact ((HB.out.setCell (by simp) _).setCell (by simp) _).drew
     ·exact (blk_down2 HH1.out hq.out).drew
     ·exact ((HH0.out.setCell_other (by simp) _).setCell_other (by simp) _).drew
    ·have hdi':d=i:=by omega
     have hdn:¬ (d:Int)<i:=by omega
     have hq:Hid (v=wdn (N*2^k) i):=by
      show _=_
      rw [HV.out,HK.out,hdi',Nat.add_comm,Nat.pow_add,← Nat.mul_assoc,Nat.sub_self,← wdn_up0]
      have:=wdn_shift (N*2^r) i 0
      rw [Nat.zero_add] at this
      exact this.symm
     clear hdi'
     go_wp2
     refine ⟨⟨i,by omega,by omega,rfl,?_,?_,?_⟩,(by first|(simp [intOf];done)|(simp [intOf];omega))⟩
     ·exact HB.out.setCell (by simp) _
     ·exact blk_down HH1.out hq.out
     ·exact HH0.out.setCell_other (by simp) _
  ·have hjd:j=d:=by omega
   subst hjd
   have he:N*2^k/2^(64*j)*2^(64*j)=N*2^k:=by
    rw [HK.out,Nat.pow_add,Nat.mul_left_comm,Nat.mul_div_cancel_left _ (Nat.two_pow_pos _),Nat.mul_comm]
   rw [he] at h1
   have i1:¬ (j:Int)≤(j:Int)-1:=by omega
   have HB:=Lib.hid hb
   have HH:=Lib.hid (Blk.setRow_same h0 (rowW 16 (N*2^k)))
   clear hb he
   go_wp2_with (first|(refine wpList_load_row rfl 151 _ rfl _ rfl 151 _ (0,0) _ h1 Tryz.underlying151 rfl (by rw [rowW_size];exact info_size) ?_)|(refine wpList_store_row rfl 151 _ _ rfl _ _ rfl rfl 151 _ h0 (by rw [rowW_size];exact info_size) (by rw [rowW_size,rowW_size]) (rowW_oneCell _ _) ?_))
   exact bodyPost_ret (v := .agg (rowW 16 (N*2^k))) (by exact results_row (p:=4) (ty:=151) rfl _ _ _ _ _ _ rfl HH.out Tryz.underlying151 rfl (by rw [rowW_size];exact info_size)) rfl ⟨rfl,Below_setRow HB.out (by omega) _⟩
theorem shr_u64 (x r:Nat) (y:Int) (hy:y=(x:Int)):y/2^r=((x/2^r:Nat):Int):=by
 rw [hy,Int.natCast_ediv,Int.natCast_pow];rfl
theorem orl_u64 (a c g:Nat) (x:Int) (hx:x=(c:Int)) (ha:a<18446744073709551616):bits .or .u64 (a:Int) (IntKind.u64.wrap (x*2^g))=((a ||| (c*2^g%18446744073709551616):Nat):Int):=by
 rw [hx,shl_u64,bits_or_u64_nat _ _ ha (mod64_lt _)]
def lost (N k:Nat):Bool:=decide (N%2^k≠0)
def left? (N m:Nat):Bool:=decide (N%2^(64*m)≠0)
theorem left_succ (N m:Nat):left? N (m+1)=(left? N m||(wd N m != 0)):=by
 unfold left?
 have h:(wd N m != 0)=decide (wdn N m≠0):=by unfold wd;by_cases h:wdn N m=0 <;> simp [h]
 rw [h,Bool.eq_iff_iff]
 simp only [decide_eq_true_eq,Bool.or_eq_true]
 exact rest_bit N m
theorem down_c (b o N k:Nat) (w:World) (hN:N<W16) (hk:k≤1024) (hx:RowAt w b o N) :
  Calls Tryz.prog 268 #[.pointer (some ⟨b,o,none⟩),.int .i64 (k:Int)] w fun e w'=>e = .returned (.tuple #[.agg (rowW 16 (N/2^k)),.bool (lost N k)])∧Below w.heap.size w w':=by
 obtain ⟨d,r,hd,hr,hkd⟩:∃ d r,d≤16∧r<64∧k=64*d+r:=⟨k/64,k%64,by omega,by omega,by omega⟩
 have HK:=Lib.hid hkd
 have HN:=Lib.hid hN
 have n1:k/64=d:=by omega
 have n2:k%64=r:=by omega
 have q3:(k:Int)/64=d:=by omega
 have q4:(k:Int)%64=r:=by omega
 have q1:(k:Int).tdiv 64=d:=by rw [Int.tdiv_eq_ediv_of_nonneg (by omega)];exact q3
 have q2:(k:Int).tmod 64=r:=by rw [Int.tmod_eq_emod_of_nonneg (by omega)];exact q4
 have q5:min (d:Int) 16=d:=by omega
 have q6:(d:Int)≤16:=by omega
 clear hkd hN
 go_enter Tryz.func268,Tryz.ntmps268
 go_wp2
 go_loopw [7,13] (fun s i wr=>∃ m:Nat,m≤d∧i = .int .i64 (m:Int)∧s = .bool (left? N m)∧wr=((w.alloc (.cells (rowW 16 0) 151)).alloc (.cells (rowW 16 0) 151))) (fun _ i _=>(16-intOf i).toNat)
 case atStart=>exact ⟨0,by omega,rfl,by simp [left?,Nat.mod_one],rfl⟩
 case round =>
  obtain ⟨m,hm,rfl,rfl,rfl⟩:=hrel
  by_cases hlt:m<d
  ·have c1:=(hx m (by omega)).1
   have hb1:=hx.lt
   have i1:(m:Int)<d:=by omega
   have i2:(m:Int)<16:=by omega
   have hs:=left_succ N m
   generalize left? N m=t at hs ⊢
   have HS:=Lib.hid hs
   clear hs
   cases t with
   | true =>
    go_wp2
    exact ⟨⟨m+1,by omega,by go_num,by rw [HS.out];rfl,trivial⟩,(by first|(simp [intOf];done)|(simp [intOf];omega))⟩
   | false =>
    go_wp2
    exact ⟨⟨m+1,by omega,by go_num,by rw [HS.out];rfl,trivial⟩,(by first|(simp [intOf];done)|(simp [intOf];omega))⟩
  ·have hmd:m=d:=by omega
   subst hmd
   have i1:¬ (m:Int)<m:=by omega
   have hb1:=hx.lt
   go_wp2
   go_loopw [9] (fun i wr=>∃ e:Nat,m≤e∧e≤16∧i = .int .i64 (e:Int)∧Below w.heap.size w wr∧Blk wr (w.heap.size+1) (rowW 16 (N/2^k%2^(64*(e-m)))) 151∧Blk wr w.heap.size (rowW 16 0) 151) (fun i _=>(16-intOf i).toNat)
   case atStart =>
    refine ⟨m,by omega,by omega,rfl,((Below.refl _ _).alloc (Nat.le_refl _) _).alloc (by simp) _,?_,(Blk.new _ _ _).alloc _⟩
    rw [Nat.sub_self,show N/2^k%2^(64*0)=0 by simp [Nat.mod_one]];exact Blk.new' _ _ _ (by simp)
   case round =>
    obtain ⟨i,hi0,hi,rfl,hb,h1,h0⟩:=hrel
    by_cases hlt:i<16
    ·obtain ⟨f,hf⟩:∃ f,f+m=i:=⟨i-m,by omega⟩
     have c1:wr.cell? ⟨b,o+i,none⟩=some (.int .u64 (wd N i)):=(hx.below hb i (by omega)).1
     have c3:wr.cell? ⟨w.heap.size+1,f,none⟩=some (.int .u64 (wd (N/2^k%2^(64*(i-m))) f)):=h1.cell (rowW_get _ _ _ (by omega))
     have c4:wr.frozen? ⟨w.heap.size+1,f,none⟩=false:=h1.frozen f
     have i1:(i:Int)<16:=by omega
     have i2:(i:Int)-m=f:=by omega
     have i3:(f:Int)<16:=by omega
     have i4:(0:Int)≤(f:Int):=by omega
     have i5:wrap64 ((i:Int)-m)=f:=by unfold wrap64;omega
     have i6:(0:Int)≤(i:Int):=by omega
     have x0:IntKind.i64.wrap ((i:Int)-m)=f:=by rw [IntKind.wrap_i64];omega
     have n1:w.heap.size+1≠b:=by omega
     obtain ⟨v,hv⟩:∃ v,v=wdn N i/2^r:=⟨_,rfl⟩
     have s1:wd N i/2^r=(v:Int):=by rw [hv];exact shr_u64 _ _ _ rfl
     have hvl:Hid (v<18446744073709551616):=by show v<_;rw [hv];exact Nat.lt_of_le_of_lt (Nat.div_le_self _ _) (wdn_lt _ _)
     have HV:=Lib.hid hv
     have HX:Hid (wdn (N/2^k) f=wdn N i/2^r+wdn N (i+1)*2^(64-r)%18446744073709551616):=by
      show _=_
      rw [HK.out,Nat.pow_add,← Nat.div_div_eq_div_mul,wdn_down _ r f (by omega),wdn_drop,wdn_drop,show f+m=i by omega,show f+1+m=i+1 by omega]
     have HO:Hid ((wdn N i/2^r) ||| (wdn N (i+1)*2^(64-r)%18446744073709551616)=wdn (N/2^k) f):=by
      show _=_
      rw [HK.out,Nat.pow_add,← Nat.div_div_eq_div_mul,← wdn_down_or _ r f (by omega),wdn_drop,wdn_drop,show f+m=i by omega,show f+1+m=i+1 by omega]
     have HB:=Lib.hid hb
     have HH1:=Lib.hid h1
     have HH0:=Lib.hid h0
     have HF:=Lib.hid hf
     clear hb h1 h0 hv hf
     by_cases hr0:r=0
     ·have hr1:¬ 0<r:=by omega
      have hq:Hid (v=wdn (N/2^k) f):=by
       show _=_
       rw [HV.out,HX.out,hr0,Nat.mul_mod_left,Nat.add_zero]
      clear hr0
      go_wp2
      refine ⟨⟨i+1,by omega,by omega,by go_num,HB.out.setCell (by simp) _,?_,HH0.out.setCell_other (by simp) _⟩,(by first|(simp [intOf];done)|(simp [intOf];omega))⟩
      have h3:=HF.out
      have e1:i-m=f:=by omega
      have e2:i+1-m=f+1:=by omega
      have h4:=HH1.out
      rw [e1] at h4
      rw [e2]
      exact blk_fill h4 hq.out
     ·have hr1:0<r:=by omega
      clear hr0
      by_cases hi1:i+1<16
      ·have c5:wr.cell? ⟨b,o+(i+1),none⟩=some (.int .u64 (wd N (i+1))):=(hx.below HB.out (i+1) (by omega)).1
       obtain ⟨g,hg⟩:∃ g,g+r=64:=⟨64-r,by omega⟩
       have j1:(i:Int)+1<16:=by omega
       have j2:(0:Int)≤(i:Int)+1:=by omega
       have x1:IntKind.i64.wrap ((i:Int)+1)=(i:Int)+1:=by rw [IntKind.wrap_i64];omega
       have x3:IntKind.i64.wrap (64-(r:Int))=(g:Int):=by rw [IntKind.wrap_i64];omega
       have x4:IntKind.i64.wrap (m:Int)=(m:Int):=by rw [IntKind.wrap_i64];omega
       have x5:IntKind.i64.wrap (f:Int)=(f:Int):=by rw [IntKind.wrap_i64];omega
       have x6:(0:Int)≤(g:Int):=by omega
       have x7:(g:Int)<64:=by omega
       obtain ⟨v2,hv2⟩:∃ v2,v2=v ||| (wdn N (i+1)*2^g%18446744073709551616):=⟨_,rfl⟩
       have y1:bits .or .u64 (v:Int) (IntKind.u64.wrap (wd N (i+1)*2^g))=(v2:Int):=by rw [hv2];exact orl_u64 _ _ _ _ rfl hvl.out
       have hq:Hid (v2=wdn (N/2^k) f):=by
        show _=_
        rw [hv2,HV.out,show g=64-r by omega,HO.out]
       clear hg hv2
       go_wp2
       refine still_tail 18 (by kernel_rfl) (by kernel_rfl) ?_
       simp only [List.take_succ_cons,List.take_zero,List.drop_succ_cons,List.drop_zero];(repeat still_step);(try refine wpStill_nil ?_)
       go_wp2
       refine ⟨⟨i+1,by omega,by omega,by go_num,((HB.out.setCell (by simp) _).setCell (by simp) _).drew,?_,((HH0.out.setCell_other (by simp) _).setCell_other (by simp) _).drew⟩,(by first|(simp [intOf];done)|(simp [intOf];omega))⟩
       have h3:=HF.out
       have e1:i-m=f:=by omega
       have e2:i+1-m=f+1:=by omega
       have h4:=HH1.out
       rw [e1] at h4
       rw [e2]
       exact (blk_fill2 h4 hq.out).drew
      ·have hi15:i=15:=by omega
       have hq:Hid (v=wdn (N/2^k) f):=by
        show _=_
        have h0:wdn N (i+1)=0:=wdn_eq_zero_of_lt N (i+1) 16 (LtW.of16 HN.out) (by omega)
        rw [HV.out,HX.out,h0,Nat.zero_mul,Nat.zero_mod,Nat.add_zero]
       have j1:¬ (i:Int)+1<16:=by omega
       clear hi15
       go_wp2
       refine ⟨⟨i+1,by omega,by omega,by go_num,HB.out.setCell (by simp) _,?_,HH0.out.setCell_other (by simp) _⟩,(by first|(simp [intOf];done)|(simp [intOf];omega))⟩
       have h3:=HF.out
       have e1:i-m=f:=by omega
       have e2:i+1-m=f+1:=by omega
       have h4:=HH1.out
       rw [e1] at h4
       rw [e2]
       exact blk_fill h4 hq.out
    ·have hi16:i=16:=by omega
     have he:N/2^k%2^(64*(i-m))=N/2^k:=by
      refine Nat.mod_eq_of_lt ?_
      have h3:LtW N i:=LtW.of_eq hi16 HN.out
      rw [Nat.div_lt_iff_lt_mul (Nat.two_pow_pos _),← Nat.pow_add]
      refine Nat.lt_of_lt_of_le h3 (pow2_le _ _ ?_)
      rw [HK.out];omega
     rw [he] at h1
     have HB:=Lib.hid hb
     have HH:=Lib.hid (Blk.setRow_same h0 (rowW 16 (N/2^k)))
     have hR:=rest_part N m r (by omega)
     rw [← HK.out] at hR
     have HR:=Lib.hid hR
     have i2:¬ (i:Int)<16:=by omega
     clear hb he hR hlt
     by_cases hmr:m<16∧0<r
     ·have c1:wr.cell? ⟨b,o+m,none⟩=some (.int .u64 (wd N m)):=(hx.below HB.out m hmr.1).1
      obtain ⟨g,hg⟩:∃ g,g+r=64:=⟨64-r,by omega⟩
      have j1:(m:Int)<16:=by omega
      have j2:0<r:=hmr.2
      have x3:wrap64 (64-(r:Int))=(g:Int):=by unfold wrap64;omega
      obtain ⟨v,hv⟩:∃ v,v=wdn N m*2^g%18446744073709551616:=⟨_,rfl⟩
      have s1:IntKind.u64.wrap (wd N m*2^g)=(v:Int):=by rw [hv];exact shl_u64 _ _
      have s2:IntKind.u64.wrap (wd N m*2^(64-r))=(v:Int):=by rw [show 64-r=g by omega];exact s1
      have HF:Hid (lost N k=(left? N m||((v:Int) != 0))):=by
       show _=_
       have h5:((v:Int) != 0)=decide (v≠0):=by by_cases h:v=0 <;> simp [h]
       rw [h5,Bool.eq_iff_iff]
       unfold left? lost
       simp only [decide_eq_true_eq,Bool.or_eq_true]
       rw [hv,show g=64-r by omega]
       exact HR.out
      clear hv hg hmr
      generalize left? N m=t at HF ⊢
      cases t with
      | true =>
       go_wp2_with (first|(refine wpList_load_row rfl 151 _ rfl _ rfl 151 _ (0,0) _ h1 Tryz.underlying151 rfl (by rw [rowW_size];exact info_size) ?_)|(refine wpList_store_row rfl 151 _ _ rfl _ _ rfl rfl 151 _ h0 (by rw [rowW_size];exact info_size) (by rw [rowW_size,rowW_size]) (rowW_oneCell _ _) ?_))
       exact bodyPost_ret (v := .tuple #[.agg (rowW 16 (N/2^k)),.bool true]) (by exact results_row_tmp (p:=4) (u:=5) (ty:=151) rfl _ _ _ _ _ _ rfl HH.out Tryz.underlying151 rfl (by rw [rowW_size];exact info_size)) rfl ⟨by rw [HF.out];rfl,Below_setRow HB.out (by omega) _⟩
      | false =>
       go_wp2_with (first|(refine wpList_load_row rfl 151 _ rfl _ rfl 151 _ (0,0) _ h1 Tryz.underlying151 rfl (by rw [rowW_size];exact info_size) ?_)|(refine wpList_store_row rfl 151 _ _ rfl _ _ rfl rfl 151 _ h0 (by rw [rowW_size];exact info_size) (by rw [rowW_size,rowW_size]) (rowW_oneCell _ _) ?_))
       exact bodyPost_ret (v := .tuple #[.agg (rowW 16 (N/2^k)),.bool ((v:Int) != 0)]) (by exact results_row_tmp (p:=4) (u:=5) (ty:=151) rfl _ _ _ _ _ _ rfl HH.out Tryz.underlying151 rfl (by rw [rowW_size];exact info_size)) rfl ⟨by rw [HF.out];rfl,Below_setRow HB.out (by omega) _⟩
     · have HF : Hid (lost N k = left? N m) := by
         show _=_
         unfold left? lost
         rw [Bool.eq_iff_iff]
         simp only [decide_eq_true_eq]
         rcases Nat.lt_or_ge m 16 with h|h
         ·have hr0:r=0:=by omega
          have:=HK.out
          rw [hr0,Nat.add_zero] at this
          rw [this]
         ·have hm16:m=16:=by omega
          have h0:wdn N m=0:=wdn_eq_zero_of_lt N m 16 (LtW.of16 HN.out) (by omega)
          rw [HR.out,h0,Nat.zero_mul,Nat.zero_mod]
          simp
       generalize left? N m=t at HF ⊢
       by_cases hm16:m<16
       ·have hr0:¬ 0<r:=fun h=>hmr ⟨hm16,h⟩
        have j1:(m:Int)<16:=by omega
        clear hmr hm16
        go_wp2_with (first|(refine wpList_load_row rfl 151 _ rfl _ rfl 151 _ (0,0) _ h1 Tryz.underlying151 rfl (by rw [rowW_size];exact info_size) ?_)|(refine wpList_store_row rfl 151 _ _ rfl _ _ rfl rfl 151 _ h0 (by rw [rowW_size];exact info_size) (by rw [rowW_size,rowW_size]) (rowW_oneCell _ _) ?_))
        exact bodyPost_ret (v := .tuple #[.agg (rowW 16 (N/2^k)),.bool t]) (by exact results_row_tmp (p:=4) (u:=5) (ty:=151) rfl _ _ _ _ _ _ rfl HH.out Tryz.underlying151 rfl (by rw [rowW_size];exact info_size)) rfl ⟨by rw [HF.out],Below_setRow HB.out (by omega) _⟩
       ·have j1:¬ (m:Int)<16:=by omega
        clear hmr hm16
        go_wp2_with (first|(refine wpList_load_row rfl 151 _ rfl _ rfl 151 _ (0,0) _ h1 Tryz.underlying151 rfl (by rw [rowW_size];exact info_size) ?_)|(refine wpList_store_row rfl 151 _ _ rfl _ _ rfl rfl 151 _ h0 (by rw [rowW_size];exact info_size) (by rw [rowW_size,rowW_size]) (rowW_oneCell _ _) ?_))
        exact bodyPost_ret (v := .tuple #[.agg (rowW 16 (N/2^k)),.bool t]) (by exact results_row_tmp (p:=4) (u:=5) (ty:=151) rfl _ _ _ _ _ _ rfl HH.out Tryz.underlying151 rfl (by rw [rowW_size];exact info_size)) rfl ⟨by rw [HF.out],Below_setRow HB.out (by omega) _⟩
open Go.RowKit

theorem lz64_c (y:Nat) (w:World) (hy:y<18446744073709551616) :
  Calls Tryz.prog 265 #[.int .u64 (y:Int)] w fun e w'=>e = .returned (.int .i64 ((64-bl y:Nat):Int))∧w'=w:=by
 have hb:bl y≤64:=(bl_le_iff y 64).2 hy
 have E:=Lib.hid hb
 have h1:(bl y:Int)≤64:=by omega
 clear hb
 go_enter Tryz.func265,Tryz.ntmps265
 go_wp2_with (go_at_call 240;refine (len64_c _ _ (by omega) (by omega)).mono ?_;rintro e w' ⟨rfl,rfl⟩;rw [show ((y:Int)).toNat=y by omega])
 go_ret
 exact ⟨ret_int (by have:=E.out;omega),rfl⟩
theorem lz64_s (y s:Nat) (w:World) (hy:y<18446744073709551616) (hs:s=64-bl y) :
  Calls Tryz.prog 265 #[.int .u64 (y:Int)] w fun e w'=>e = .returned (.int .i64 (s:Int))∧w'=w:=by
 subst hs;exact lz64_c y w hy
theorem and_mask (x:Nat) (hx:x<18446744073709551616):bits .and .u64 (x:Int) 4294967295=((x%4294967296:Nat):Int):=by
 have:=bits_and_u64_nat x 4294967295 hx (by decide)
 rw [show (4294967295:Nat)=2^32-1 from rfl,Nat.and_two_pow_sub_one_eq_mod] at this
 exact this
theorem split32 (X L:Nat):X*18446744073709551616+(L/4294967296*4294967296+L%4294967296)=X*18446744073709551616+L:=by
 rw [Nat.mul_comm (L/4294967296),Nat.div_add_mod]
theorem wrap_nat (x:Nat) (hx:x<18446744073709551616):IntKind.u64.wrap (x:Int)=(x:Int):=by rw [IntKind.wrap_u64];omega
theorem nat_tdiv (x a:Nat):(x:Int).tdiv (a:Int)=((x/a:Nat):Int):=by
 rw [Int.tdiv_eq_ediv_of_nonneg (by omega),Int.natCast_ediv]
theorem wrap_mul (x y z:Nat) (h:z=x*y) (hz:z<18446744073709551616):IntKind.u64.wrap ((x:Int)*(y:Int))=(z:Int):=by
 rw [← Int.natCast_mul,← h];exact wrap_nat z hz
theorem div64_c (h l y:Nat) (w:World) (hh:h<y) (hy:y<18446744073709551616) (hl:l<18446744073709551616) (h0:h≠0) :
  Calls Tryz.prog 264 #[.int .u64 (h:Int),.int .u64 (l:Int),.int .u64 (y:Int)] w fun e w'=>e = .returned (.tuple #[.int .u64 (((h*18446744073709551616+l)/y:Nat):Int),.int .u64 (((h*18446744073709551616+l)%y:Nat):Int)])∧Below w.heap.size w w':=by
 have HY:=Lib.hid hy
 have i1:¬ ((y:Int)=0):=by omega
 have i2:¬ (y:Int)≤(h:Int):=by omega
 have i3:¬ ((h:Int)=0):=by omega
 obtain ⟨nb,n1,n2⟩:=norm_word y (by omega) hy
 obtain ⟨s,hs⟩:∃ s,s=64-bl y:=⟨_,rfl⟩
 rw [← hs] at n1 n2
 have HS:=Lib.hid hs
 have hs64:s≤64:=by omega
 obtain ⟨g,hg⟩:∃ g,g=64-s:=⟨_,rfl⟩
 have z0:0<bl y:=bl_pos y (by omega)
 have z1:IntKind.u64.wrap (s:Int)=(s:Int):=wrap_nat _ (by omega)
 have z2:(s:Int)<64:=by omega
 have z3:s<64:=by omega
 have z4:IntKind.u64.wrap (64-(s:Int))=(g:Int):=by rw [IntKind.wrap_u64];omega
 have z5:min g 64=g:=by omega
 have z6:min s 64=s:=by omega
 have z7:(0:Int)≤(s:Int):=by omega
 have z8:(0:Int)≤(g:Int):=by omega
 obtain ⟨m1,m2,m3⟩:=div64_shift h l y s hs64 n1 hh hl
 obtain ⟨Y,hY⟩:∃ Y,Y=y*2^s:=⟨_,rfl⟩
 obtain ⟨X,hX⟩:∃ X,X=h*2^s+l/2^(64-s):=⟨_,rfl⟩
 obtain ⟨L,hL⟩:∃ L,L=l*2^s%18446744073709551616:=⟨_,rfl⟩
 obtain ⟨Hs,hHs⟩:∃ Hs,Hs=h*2^s%18446744073709551616:=⟨_,rfl⟩
 have f1:IntKind.u64.wrap ((y:Int)*2^s)=(Y:Int):=by rw [shl_u64,Nat.mod_eq_of_lt n1,hY]
 have f4a:IntKind.u64.wrap ((h:Int)*2^s)=(Hs:Int):=by rw [shl_u64,hHs]
 have f4:bits .or .u64 (Hs:Int) ((l:Int)/2^g)=(X:Int):=by
  rw [hg,or_u64 Hs l (64-s) l rfl (by rw [hHs];exact mod64_lt _) hl,hHs,m1,hX]
 have f5:IntKind.u64.wrap ((l:Int)*2^s)=(L:Int):=by rw [shl_u64,hL]
 rw [← hX,← hL] at m3
 rw [← hX,← hY] at m2
 rw [← hY] at n1 n2
 have hLl:L<18446744073709551616:=by rw [hL];exact mod64_lt _
 have E:=Lib.hid (div64_parts h l y s X (L%4294967296) (L/4294967296) ((split32 X L).trans m3) (by omega) (by omega) (by rw [← hY];exact m2))
 rw [← hY] at E
 obtain ⟨a,ha⟩:∃ a,a=Y/4294967296:=⟨_,rfl⟩
 obtain ⟨b,hb⟩:∃ b,b=Y%4294967296:=⟨_,rfl⟩
 obtain ⟨c,hc⟩:∃ c,c=L/4294967296:=⟨_,rfl⟩
 obtain ⟨d,hd⟩:∃ d,d=L%4294967296:=⟨_,rfl⟩
 rw [← hc,← hd] at E
 have f2:(Y:Int)/4294967296=(a:Int):=by omega
 have f3:bits .and .u64 (Y:Int) 4294967295=(b:Int):=by rw [and_mask Y n1,hb]
 have f6:(L:Int)/4294967296=(c:Int):=by omega
 have f7:bits .and .u64 (L:Int) 4294967295=(d:Int):=by rw [and_mask L hLl,hd]
 have hYe:Y=a*4294967296+b:=by omega
 have ba:2147483648≤a:=by omega
 have ba2:a<4294967296:=by omega
 have bb:b<4294967296:=by omega
 have bc:c<4294967296:=by omega
 have bd:d<4294967296:=by omega
 clear hY hX hL hHs m1 m3 hg z0 hs nb ha hb hc hd hLl
 have hX:X<a*4294967296+b:=by omega
 have hXl:X<18446744073709551616:=by omega
 have T0:=half_first X c a b ba bb bc hX
 obtain ⟨q0,hq0⟩:∃ q0,q0=X/a:=⟨_,rfl⟩
 obtain ⟨r0,hr0⟩:∃ r0,r0=X%a:=⟨_,rfl⟩
 rw [← hq0,← hr0] at T0
 obtain ⟨p0,hp0⟩:∃ p0,p0=q0*a:=⟨_,rfl⟩
 have hr0a:r0<a:=by rw [hr0];exact Nat.mod_lt _ (by omega)
 have t1:=T0.1
 have t3:=T0.2.2
 rw [← hp0] at t1
 have g1:(X:Int).tdiv (a:Int)=(q0:Int):=by rw [nat_tdiv,hq0]
 have g1':(X:Int)/(a:Int)=(q0:Int):=by rw [← Int.natCast_ediv,hq0]
 have g2:IntKind.u64.wrap (q0:Int)=(q0:Int):=wrap_nat _ (by omega)
 have g3:IntKind.u64.wrap ((q0:Int)*(a:Int))=(p0:Int):=wrap_mul _ _ _ hp0 (by omega)
 have g4:IntKind.u64.wrap ((X:Int)-(p0:Int))=(r0:Int):=by rw [IntKind.wrap_u64];omega
 have ia:¬ (a:Int)=0:=by omega
 have ia':((a:Int)==0)=false:=by simp;omega
 have HT0:=Lib.hid T0
 have HR0:=Lib.hid hr0a
 clear T0 t1 t3 hq0 hr0 hp0 hr0a
 have HB:Hid (2147483648≤a∧a<4294967296∧b<4294967296∧c<4294967296∧d<4294967296∧X<a*4294967296+b∧X<18446744073709551616∧Y=a*4294967296+b∧Y<18446744073709551616):=⟨ba,ba2,bb,bc,bd,hX,hXl,hYe,n1⟩
 clear ba ba2 bb bc bd hX hXl hYe n1 n2 m2
 clear hh hl h0 hs64
 go_enter Tryz.func264,Tryz.ntmps264
 go_upto_block 0 with (go_at_call 265;refine (lz64_s _ s _ HY.out HS.out).mono ?_;rintro e w' ⟨rfl,rfl⟩)
 go_cut [15,16] from 67 to 85 (fun s15 s16 wc=>(∃ r:Nat,s16 = .int .u64 (r:Int))∧s15 = .int .u64 (((X*4294967296+c)/Y:Nat):Int)∧wc=w')
 case first =>
  go_wp2_with fail
  go_loop [15,16] (fun s15 s16=>∃ q r:Nat,s15 = .int .u64 (q:Int)∧s16 = .int .u64 (r:Int)∧r<4294967296∧Hid (Tried X c a b q r)) (fun s15 _=>(intOf s15).toNat)
  case atStart=>exact ⟨q0,r0,rfl,rfl,by have:=HR0.out;have:=HB.out.2.1;omega,HT0⟩
  case round =>
   obtain ⟨q,r,rfl,rfl,hr,HT⟩:=hrel
   obtain ⟨ba,ba2,bb,bc,bd,hX,hXl,hYe,n1⟩:=HB.out
   have t3:=HT.out.2.2
   have hwy:=half_ways X c a b q r Y HT.out hYe hX bc bb
   by_cases hg:4294967296≤q∨4294967296*r+c<q*b
   ·obtain ⟨p,ra,hp,hra,T',hD⟩:=hwy.1 hg
    have HT':=Lib.hid T'
    have HD:=Lib.hid hD
    have HP:=Lib.hid hp
    have j1:IntKind.u64.wrap ((q:Int)-1)=(p:Int):=by rw [IntKind.wrap_u64];omega
    have j2:IntKind.u64.wrap ((r:Int)+(a:Int))=(ra:Int):=by rw [IntKind.wrap_u64];omega
    clear hwy T' hD hYe hX hXl n1
    by_cases hq:4294967296≤q
    ·have j4:(4294967296:Int)≤(q:Int):=by omega
     clear hg hp hra t3
     by_cases hbr:4294967296≤ra
     ·have j3:(4294967296:Int)≤(ra:Int):=by omega
      go_wp2_with fail
      go_meet
      exact ⟨⟨_,rfl⟩,by rw [← HD.out hbr],rfl⟩
     ·have j3:(ra:Int)<4294967296:=by omega
      have j6:¬ (4294967296:Int)≤(ra:Int):=by omega
      have j7:decide ((4294967296:Int)≤(ra:Int))=false:=by simp;omega
      clear hbr
      go_wp2_with fail
      go_round
      case rel=>exact ⟨p,ra,rfl,rfl,by omega,HT'⟩
      case measure=>have:=HP.out;simp [intOf];omega
    ·obtain ⟨qb,hqb⟩:∃ qb,qb=q*b:=⟨_,rfl⟩
     have hqb2:qb<18446744073709551616:=by rw [hqb];exact Nat.lt_of_lt_of_le (Nat.mul_lt_mul'' (Nat.lt_of_not_le hq) bb) (by decide)
     have hgt:4294967296*r+c<qb:=by rw [hqb];exact hg.resolve_left hq
     obtain ⟨hc2,hhc2⟩:∃ hc2,hc2=4294967296*r+c:=⟨_,rfl⟩
     obtain ⟨hc1,hhc1⟩:∃ hc1,hc1=4294967296*r:=⟨_,rfl⟩
     have k1:IntKind.u64.wrap ((q:Int)*(b:Int))=(qb:Int):=wrap_mul _ _ _ hqb hqb2
     have k2:IntKind.u64.wrap (4294967296*(r:Int))=(hc1:Int):=by rw [IntKind.wrap_u64];omega
     have k3:IntKind.u64.wrap ((hc1:Int)+(c:Int))=(hc2:Int):=by rw [IntKind.wrap_u64];omega
     have j4:(q:Int)<4294967296:=by omega
     have j5:(hc2:Int)<(qb:Int):=by omega
     clear hg hp hra t3 hqb hqb2 hgt hhc2 hhc1
     by_cases hbr:4294967296≤ra
     ·have j3:(4294967296:Int)≤(ra:Int):=by omega
      go_wp2_with fail
      go_meet
      exact ⟨⟨_,rfl⟩,by rw [← HD.out hbr],rfl⟩
     ·have j3:(ra:Int)<4294967296:=by omega
      have j6:¬ (4294967296:Int)≤(ra:Int):=by omega
      have j7:decide ((4294967296:Int)≤(ra:Int))=false:=by simp;omega
      clear hbr
      go_wp2_with fail
      go_round
      case rel=>exact ⟨p,ra,rfl,rfl,by omega,HT'⟩
      case measure=>have:=HP.out;simp [intOf];omega
   ·have HD:=Lib.hid (hwy.2 hg)
    have hq:q<4294967296:=by omega
    obtain ⟨qb,hqb⟩:∃ qb,qb=q*b:=⟨_,rfl⟩
    have hqb2:qb<18446744073709551616:=by rw [hqb];exact Nat.lt_of_lt_of_le (Nat.mul_lt_mul'' hq bb) (by decide)
    have hgt:¬ 4294967296*r+c<qb:=by rw [hqb];exact fun h=>hg (.inr h)
    obtain ⟨hc2,hhc2⟩:∃ hc2,hc2=4294967296*r+c:=⟨_,rfl⟩
    obtain ⟨hc1,hhc1⟩:∃ hc1,hc1=4294967296*r:=⟨_,rfl⟩
    have k1:IntKind.u64.wrap ((q:Int)*(b:Int))=(qb:Int):=wrap_mul _ _ _ hqb hqb2
    have k2:IntKind.u64.wrap (4294967296*(r:Int))=(hc1:Int):=by rw [IntKind.wrap_u64];omega
    have k3:IntKind.u64.wrap ((hc1:Int)+(c:Int))=(hc2:Int):=by rw [IntKind.wrap_u64];omega
    have j4:(q:Int)<4294967296:=by omega
    have j5:(qb:Int)≤(hc2:Int):=by omega
    have j8:¬ (4294967296:Int)≤(q:Int):=by omega
    have j9:¬ hc2<qb:=by omega
    have j10:¬ 4294967296≤q:=by omega
    clear hg t3 hqb hqb2 hgt hhc2 hhc1 hwy hYe hX hXl n1 hq ba ba2 bb bc bd hr
    go_wp2_with fail
    go_meet
    exact ⟨⟨_,rfl⟩,by rw [← HD.out],rfl⟩
 case rest =>
  obtain ⟨⟨r,rfl⟩,rfl,hwc⟩:=hcut
  subst hwc
  obtain ⟨ba,ba2,bb,bc,bd,hX,hXl,hYe,n1⟩:=HB.out
  obtain ⟨Q,hQ⟩:∃ Q,Q=(X*4294967296+c)/Y:=⟨_,rfl⟩
  obtain ⟨R,hR⟩:∃ R,R=(X*4294967296+c)%Y:=⟨_,rfl⟩
  rw [← hQ,← hR] at E
  rw [← hQ]
  have hdm:=Nat.div_add_mod (X*4294967296+c) Y
  rw [← hQ,← hR] at hdm
  have hRY:R<Y:=by rw [hR];exact Nat.mod_lt _ (by omega)
  have hQl:Q<4294967296:=by rw [hQ,hYe];exact half_lt X c a b bc hX
  obtain ⟨P,hP⟩:∃ P,P=Q*Y:=⟨_,rfl⟩
  rw [Nat.mul_comm,← hP] at hdm
  obtain ⟨M1,hM1⟩:∃ M1,M1=X*4294967296%18446744073709551616:=⟨_,rfl⟩
  obtain ⟨M2,hM2⟩:∃ M2,M2=(M1+c)%18446744073709551616:=⟨_,rfl⟩
  obtain ⟨P2,hP2⟩:∃ P2,P2=P%18446744073709551616:=⟨_,rfl⟩
  have a1:IntKind.u64.wrap ((X:Int)*4294967296)=(M1:Int):=by rw [IntKind.wrap_u64];omega
  have a2:IntKind.u64.wrap ((M1:Int)+(c:Int))=(M2:Int):=by rw [IntKind.wrap_u64];omega
  have a3:IntKind.u64.wrap ((Q:Int)*(Y:Int))=(P2:Int):=by rw [← Int.natCast_mul,← hP,IntKind.wrap_u64];omega
  have a4:IntKind.u64.wrap ((M2:Int)-(P2:Int))=(R:Int):=by
   rw [IntKind.wrap_u64,← rest_wrap X c P R Y hRY (by omega) hdm hXl bc,hM2,hM1,hP2]
   omega
  have T1:=half_first R d a b ba bb bd (by rw [← hYe];exact hRY)
  obtain ⟨q1,hq1⟩:∃ q1,q1=R/a:=⟨_,rfl⟩
  obtain ⟨r1,hr1⟩:∃ r1,r1=R%a:=⟨_,rfl⟩
  rw [← hq1,← hr1] at T1
  obtain ⟨p1,hp1⟩:∃ p1,p1=q1*a:=⟨_,rfl⟩
  have hr1a:r1<a:=by rw [hr1];exact Nat.mod_lt _ (by omega)
  have t1:=T1.1
  have t3:=T1.2.2
  rw [← hp1] at t1
  have a5:(R:Int).tdiv (a:Int)=(q1:Int):=by rw [nat_tdiv,hq1]
  have a6:(R:Int)/(a:Int)=(q1:Int):=by rw [← Int.natCast_ediv,hq1]
  have a7:IntKind.u64.wrap (q1:Int)=(q1:Int):=wrap_nat _ (by omega)
  have a8:IntKind.u64.wrap ((q1:Int)*(a:Int))=(p1:Int):=wrap_mul _ _ _ hp1 (by omega)
  have a9:IntKind.u64.wrap ((R:Int)-(p1:Int))=(r1:Int):=by rw [IntKind.wrap_u64];omega
  have HT1:=Lib.hid T1
  have HR1:=Lib.hid hr1a
  have HRY:Hid (R<a*4294967296+b):=by show R<_;rw [← hYe];exact hRY
  have HQL:=Lib.hid hQl
  clear ba ba2 bb bc bd hX hXl hYe n1 hQ hR hdm hRY hQl hP hM1 hM2 hP2 T1 t1 t3 hq1 hr1 hp1 hr1a
  obtain ⟨wc1,hwc1⟩:∃ wc1:World,wc1=wc:=⟨_,rfl⟩
  go_upto_block 2 with fail
  go_cut [18,16] from 102 to 120 (fun s15 s16 wc=>(∃ r:Nat,s16 = .int .u64 (r:Int))∧s15 = .int .u64 (((R*4294967296+d)/Y:Nat):Int)∧wc=wc1)
  case first =>
   go_wp2_with fail
   go_loop [18,16] (fun s15 s16=>∃ q r:Nat,s15 = .int .u64 (q:Int)∧s16 = .int .u64 (r:Int)∧r<4294967296∧Hid (Tried R d a b q r)) (fun s15 _=>(intOf s15).toNat)
   case atStart=>exact ⟨q1,r1,rfl,rfl,by have:=HR1.out;have:=HB.out.2.1;omega,HT1⟩
   case round =>
    obtain ⟨q,r,rfl,rfl,hr,HT⟩:=hrel
    obtain ⟨ba,ba2,bb,bc,bd,hX,hXl,hYe,n1⟩:=HB.out
    have t3:=HT.out.2.2
    have hwy:=half_ways R d a b q r Y HT.out hYe HRY.out bd bb
    by_cases hg:4294967296≤q∨4294967296*r+d<q*b
    ·obtain ⟨p,ra,hp,hra,T',hD⟩:=hwy.1 hg
     have HT':=Lib.hid T'
     have HD:=Lib.hid hD
     have HP:=Lib.hid hp
     have j1:IntKind.u64.wrap ((q:Int)-1)=(p:Int):=by rw [IntKind.wrap_u64];omega
     have j2:IntKind.u64.wrap ((r:Int)+(a:Int))=(ra:Int):=by rw [IntKind.wrap_u64];omega
     clear hwy T' hD hYe hX hXl n1
     by_cases hq:4294967296≤q
     ·have j4:(4294967296:Int)≤(q:Int):=by omega
      clear hg hp hra t3
      by_cases hbr:4294967296≤ra
      ·have j3:(4294967296:Int)≤(ra:Int):=by omega
       go_wp2_with fail
       go_meet
       exact ⟨⟨_,rfl⟩,by rw [← HD.out hbr],hwc1.symm⟩
      ·have j3:(ra:Int)<4294967296:=by omega
       have j6:¬ (4294967296:Int)≤(ra:Int):=by omega
       have j7:decide ((4294967296:Int)≤(ra:Int))=false:=by simp;omega
       clear hbr
       go_wp2_with fail
       go_round
       case rel=>exact ⟨p,ra,rfl,rfl,by omega,HT'⟩
       case measure=>have:=HP.out;simp [intOf];omega
     ·obtain ⟨qb,hqb⟩:∃ qb,qb=q*b:=⟨_,rfl⟩
      have hqb2:qb<18446744073709551616:=by rw [hqb];exact Nat.lt_of_lt_of_le (Nat.mul_lt_mul'' (Nat.lt_of_not_le hq) bb) (by decide)
      have hgt:4294967296*r+d<qb:=by rw [hqb];exact hg.resolve_left hq
      obtain ⟨hc2,hhc2⟩:∃ hc2,hc2=4294967296*r+d:=⟨_,rfl⟩
      obtain ⟨hc1,hhc1⟩:∃ hc1,hc1=4294967296*r:=⟨_,rfl⟩
      have k1:IntKind.u64.wrap ((q:Int)*(b:Int))=(qb:Int):=wrap_mul _ _ _ hqb hqb2
      have k2:IntKind.u64.wrap (4294967296*(r:Int))=(hc1:Int):=by rw [IntKind.wrap_u64];omega
      have k3:IntKind.u64.wrap ((hc1:Int)+(d:Int))=(hc2:Int):=by rw [IntKind.wrap_u64];omega
      have j4:(q:Int)<4294967296:=by omega
      have j5:(hc2:Int)<(qb:Int):=by omega
      clear hg hp hra t3 hqb hqb2 hgt hhc2 hhc1
      by_cases hbr:4294967296≤ra
      ·have j3:(4294967296:Int)≤(ra:Int):=by omega
       go_wp2_with fail
       go_meet
       exact ⟨⟨_,rfl⟩,by rw [← HD.out hbr],hwc1.symm⟩
      ·have j3:(ra:Int)<4294967296:=by omega
       have j6:¬ (4294967296:Int)≤(ra:Int):=by omega
       have j7:decide ((4294967296:Int)≤(ra:Int))=false:=by simp;omega
       clear hbr
       go_wp2_with fail
       go_round
       case rel=>exact ⟨p,ra,rfl,rfl,by omega,HT'⟩
       case measure=>have:=HP.out;simp [intOf];omega
    ·have HD:=Lib.hid (hwy.2 hg)
     have hq:q<4294967296:=by omega
     obtain ⟨qb,hqb⟩:∃ qb,qb=q*b:=⟨_,rfl⟩
     have hqb2:qb<18446744073709551616:=by rw [hqb];exact Nat.lt_of_lt_of_le (Nat.mul_lt_mul'' hq bb) (by decide)
     have hgt:¬ 4294967296*r+d<qb:=by rw [hqb];exact fun h=>hg (.inr h)
     obtain ⟨hc2,hhc2⟩:∃ hc2,hc2=4294967296*r+d:=⟨_,rfl⟩
     obtain ⟨hc1,hhc1⟩:∃ hc1,hc1=4294967296*r:=⟨_,rfl⟩
     have k1:IntKind.u64.wrap ((q:Int)*(b:Int))=(qb:Int):=wrap_mul _ _ _ hqb hqb2
     have k2:IntKind.u64.wrap (4294967296*(r:Int))=(hc1:Int):=by rw [IntKind.wrap_u64];omega
     have k3:IntKind.u64.wrap ((hc1:Int)+(d:Int))=(hc2:Int):=by rw [IntKind.wrap_u64];omega
     have j4:(q:Int)<4294967296:=by omega
     have j5:(qb:Int)≤(hc2:Int):=by omega
     have j8:¬ (4294967296:Int)≤(q:Int):=by omega
     have j9:¬ hc2<qb:=by omega
     have j10:¬ 4294967296≤q:=by omega
     clear hg t3 hqb hqb2 hgt hhc2 hhc1 hwy hYe hX hXl n1 hq ba ba2 bb bc bd hr
     go_wp2_with fail
     go_meet
     exact ⟨⟨_,rfl⟩,by rw [← HD.out],hwc1.symm⟩
  case rest =>
   obtain ⟨⟨r2,rfl⟩,rfl,rfl⟩:=hcut
   obtain ⟨ba,ba2,bb,bc,bd,hX,hXl,hYe,n1⟩:=HB.out
   obtain ⟨Q2,hQ2⟩:∃ Q2,Q2=(R*4294967296+d)/Y:=⟨_,rfl⟩
   obtain ⟨R2,hR2⟩:∃ R2,R2=(R*4294967296+d)%Y:=⟨_,rfl⟩
   rw [← hQ2,← hR2] at E
   rw [← hQ2]
   have hdm:=Nat.div_add_mod (R*4294967296+d) Y
   rw [← hQ2,← hR2] at hdm
   have hRY2:R2<Y:=by rw [hR2];exact Nat.mod_lt _ (by omega)
   have hQl2:Q2<4294967296:=by rw [hQ2,hYe];exact half_lt R d a b bd HRY.out
   have hQL:=HQL.out
   have hRl:R<18446744073709551616:=by have:=HRY.out;omega
   obtain ⟨P,hP⟩:∃ P,P=Q2*Y:=⟨_,rfl⟩
   rw [Nat.mul_comm,← hP] at hdm
   obtain ⟨N1,hN1⟩:∃ N1,N1=R*4294967296%18446744073709551616:=⟨_,rfl⟩
   obtain ⟨N2,hN2⟩:∃ N2,N2=(N1+d)%18446744073709551616:=⟨_,rfl⟩
   obtain ⟨P3,hP3⟩:∃ P3,P3=P%18446744073709551616:=⟨_,rfl⟩
   obtain ⟨Q3,hQ3⟩:∃ Q3,Q3=Q*4294967296:=⟨_,rfl⟩
   obtain ⟨Q4,hQ4⟩:∃ Q4,Q4=Q3+Q2:=⟨_,rfl⟩
   obtain ⟨R3,hR3⟩:∃ R3,R3=R2/2^s:=⟨_,rfl⟩
   have b1:IntKind.u64.wrap ((R:Int)*4294967296)=(N1:Int):=by rw [IntKind.wrap_u64];omega
   have b2:IntKind.u64.wrap ((N1:Int)+(d:Int))=(N2:Int):=by rw [IntKind.wrap_u64];omega
   have b3:IntKind.u64.wrap ((Q2:Int)*(Y:Int))=(P3:Int):=by rw [← Int.natCast_mul,← hP,IntKind.wrap_u64];omega
   have b4:IntKind.u64.wrap ((N2:Int)-(P3:Int))=(R2:Int):=by
    rw [IntKind.wrap_u64,← rest_wrap R d P R2 Y hRY2 (by omega) hdm hRl bd,hN2,hN1,hP3]
    omega
   have b5:IntKind.u64.wrap ((Q:Int)*4294967296)=(Q3:Int):=by rw [IntKind.wrap_u64];omega
   have b6:IntKind.u64.wrap ((Q3:Int)+(Q2:Int))=(Q4:Int):=by rw [IntKind.wrap_u64];omega
   have b7:(R2:Int)/2^s=(R3:Int):=by rw [hR3];exact shr_u64 _ _ _ rfl
   have E1:Hid (Q4=(h*18446744073709551616+l)/y):=by show Q4=_;rw [hQ4,hQ3];exact E.out.1
   have E2:Hid (R3=(h*18446744073709551616+l)%y):=by show R3=_;rw [hR3];exact E.out.2
   clear ba ba2 bb bc bd hX hXl hYe n1 hQ2 hR2 hdm hRY2 hQl2 hQL hRl hP hN1 hN2 hP3 hQ3 hQ4 hR3 E
   go_wp2
   go_ret2
   exact ⟨by rw [← E1.out,← E2.out];rfl,Below.refl _ _⟩
open Go.RowKit

theorem div64_0 (l y:Nat) (w:World) (hy:y<18446744073709551616) (hl:l<18446744073709551616) (h0:y≠0) :
  Calls Tryz.prog 264 #[.int .u64 0,.int .u64 (l:Int),.int .u64 (y:Int)] w fun e w'=>e = .returned (.tuple #[.int .u64 ((l/y:Nat):Int),.int .u64 ((l%y:Nat):Int)])∧Below w.heap.size w w':=by
 obtain ⟨q,hq⟩:∃ q,q=l/y:=⟨_,rfl⟩
 obtain ⟨r,hr⟩:∃ r,r=l%y:=⟨_,rfl⟩
 have i1:¬ ((y:Int)=0):=by omega
 have i2:¬ (y:Int)≤0:=by omega
 have a1:(l:Int).tdiv (y:Int)=(q:Int):=by rw [nat_tdiv,hq]
 have a2:(l:Int)/(y:Int)=(q:Int):=by rw [← Int.natCast_ediv,hq]
 have a3:IntKind.u64.wrap (q:Int)=(q:Int):=wrap_nat _ (by rw [hq];exact Nat.lt_of_le_of_lt (Nat.div_le_self _ _) hl)
 have a4:(l:Int).tmod (y:Int)=(r:Int):=by rw [Int.tmod_eq_emod_of_nonneg (by omega),hr];rfl
 have a5:(l:Int)%(y:Int)=(r:Int):=by rw [hr];rfl
 have a6:IntKind.u64.wrap (r:Int)=(r:Int):=wrap_nat _ (by rw [hr];exact Nat.lt_of_le_of_lt (Nat.mod_le _ _) hl)
 rw [← hq,← hr]
 clear hq hr hy hl h0
 go_enter Tryz.func264,Tryz.ntmps264
 go_wp2_with fail
 go_quiet (fail)
 go_wp2_with fail
 go_ret2
 exact ⟨rfl,below_by⟩
theorem div64_g (h l y q r:Nat) (w:World) (hh:h<y) (hy:y<18446744073709551616) (hl:l<18446744073709551616) (hq:q=(h*18446744073709551616+l)/y) (hr:r=(h*18446744073709551616+l)%y) :
  Calls Tryz.prog 264 #[.int .u64 (h:Int),.int .u64 (l:Int),.int .u64 (y:Int)] w fun e w'=>e = .returned (.tuple #[.int .u64 (q:Int),.int .u64 (r:Int)])∧Below w.heap.size w w':=by
 subst hq;subst hr
 rcases Nat.eq_zero_or_pos h with rfl|h0
 ·have:=div64_0 l y w hy hl (by omega)
  rw [Nat.zero_mul,Nat.zero_add]
  exact this
 ·exact div64_c h l y w hh hy hl (by omega)
open Go.RowKit

theorem below_of_regrown' {w w':World} (h:∃ p:Regrown,w'=Go.Sort.grow (redrawn w p.d) p.os):Below w.heap.size w w':=by
 obtain ⟨⟨d,os⟩,rfl⟩:=h;exact below_regrown w d os
theorem split_word (x:Nat):x/18446744073709551616*18446744073709551616+x%18446744073709551616=x:=by rw [Nat.mul_comm];exact Nat.div_add_mod _ _
theorem ms_digit (x y c:Nat) (hx:x<18446744073709551616) (hy:y<18446744073709551616) (hc:c<18446744073709551616) :
  ∃ H L l c1 c':Nat,H=x*y/18446744073709551616∧L=x*y%18446744073709551616∧L<18446744073709551616∧l=(L+c)%18446744073709551616∧c1=(L+c)/18446744073709551616∧c'=H+c1∧c'<18446744073709551616∧l<18446744073709551616∧x*y+c=c'*18446744073709551616+l:=by
 refine ⟨_,_,_,_,_,rfl,rfl,Nat.mod_lt _ (by decide),rfl,rfl,rfl,?_,Nat.mod_lt _ (by decide),?_⟩
 all_goals
  have hxy:x*y≤18446744073709551615*18446744073709551615:=Nat.mul_le_mul (by omega) (by omega)
  generalize x*y=p at *
  omega
theorem sub64_v (X Y b t b':Nat) (hX:X<18446744073709551616) (hY:Y<18446744073709551616) (hb:b≤1) (hb':b'=if X<Y+b then 1 else 0) (ht:t+Y+b=X+b'*18446744073709551616) (w:World) :
  (callFunc 269 #[.int .u64 (X:Int),.int .u64 (Y:Int),.int .u64 (b:Int)]).run Tryz.prog w = .ok (.value (.tuple #[.int .u64 (t:Int),.int .u64 (b':Int)])) w:=by
 rw [sub64 X Y b (by omega) (by omega) (by omega) (by omega) (by omega)]
 have e1:(X:Int)-Y-b=(t:Int)-b'*18446744073709551616:=by omega
 have e2:((X:Int)-Y-b)%18446744073709551616=(t:Int):=by
  have:b'≤1:=by rw [hb'];split <;> omega
  have ht2:t<18446744073709551616:=by
   rw [hb'] at ht;split at ht <;> omega
  omega
 have e3:(if (X:Int)<(Y:Int)+(b:Int) then (1:Int) else 0)=(b':Int):=by
  rw [hb'];split <;> split <;> omega
 rw [e2,e3]
theorem sub_step (X Y b:Nat) (hX:X<18446744073709551616) (hY:Y<18446744073709551616) (hb:b≤1) :
  ∃ t b':Nat,b'=(if X<Y+b then 1 else 0)∧b'≤1∧t<18446744073709551616∧t+Y+b=X+b'*18446744073709551616:=by
 by_cases h:X<Y+b
 ·exact ⟨X+18446744073709551616-Y-b,1,by rw [if_pos h],by omega,by omega,by omega⟩
 ·exact ⟨X-Y-b,0,by rw [if_neg h],by omega,by omega,by omega⟩
theorem add64_w (X Y c t c':Nat) (hX:X<18446744073709551616) (hY:Y<18446744073709551616) (hc:c≤1) (ht:t=(X+Y+c)%18446744073709551616) (hc':c'=(X+Y+c)/18446744073709551616) (w:World) :
  (callFunc 202 #[.int .u64 (X:Int),.int .u64 (Y:Int),.int .u64 (c:Int)]).run Tryz.prog w = .ok (.value (.tuple #[.int .u64 (t:Int),.int .u64 (c':Int)])) w:=by
 rw [add64 X Y c (by omega) (by omega) (by omega) (by omega) (by omega) (by omega),ht,hc']
 congr 5 <;> omega
theorem step_c (bu bv U V n j L capu capv:Nat) (w:World) (hn:2≤n) (hn16:j+n≤16) (hL:L=n+1) (hcu:L≤capu) (hcv:n≤capv) (hV:V<2^(64*n)) (hv1:wdn V (n-1)≠0) (hU:U<V*2^(64*(j+1)))
  (hbu:Blk w bu (rowW 17 U) 351) (hbv:Blk w bv (rowW 16 V) 151) (hne:bv<bu) :
  Calls Tryz.prog 267 #[.slice (some ⟨bu,j,none⟩) L capu,.slice (some ⟨bv,0,none⟩) (n:Nat) capv] w fun e w'=>e = .returned (.int .u64 ((U/(V*2^(64*j)):Nat):Int))∧Below bu w w'∧Blk w' bu (rowW 17 (U%(V*2^(64*j)))) 351:=by
 obtain ⟨m,hm⟩:∃ m,n=m+2:=⟨n-2,by omega⟩
 obtain ⟨p,hp⟩:∃ p,p=m+1:=⟨_,rfl⟩
 obtain ⟨W,hW⟩:∃ W,W=V*2^(64*j):=⟨_,rfl⟩
 have hV0:0<V:=by
  rcases Nat.eq_zero_or_pos V with h|h
  ·rw [h] at hv1;exact absurd (wdn_zero _) hv1
  ·exact h
 have hW0:0<W:=by rw [hW];exact Nat.mul_pos hV0 (Nat.two_pow_pos _)
 have hUl:U<2^(64*(j+m+3)):=by
  refine Nat.lt_of_lt_of_le hU ?_
  have:=Nat.mul_le_mul_right (2^(64*(j+1))) (Nat.le_of_lt hV)
  refine Nat.le_trans this ?_
  rw [← Nat.pow_add];exact pow2_le _ _ (by omega)
 have hQ:U/W<18446744073709551616:=by rw [hW];exact digit_lt U V j hV0 hU
 obtain ⟨v1,hv1e⟩:∃ v1,v1=wdn V p:=⟨_,rfl⟩
 obtain ⟨v2,hv2e⟩:∃ v2,v2=wdn V m:=⟨_,rfl⟩
 obtain ⟨u0,hu0e⟩:∃ u0,u0=wdn U (j+n):=⟨_,rfl⟩
 obtain ⟨u1,hu1e⟩:∃ u1,u1=wdn U (j+p):=⟨_,rfl⟩
 obtain ⟨u2,hu2e⟩:∃ u2,u2=wdn U (j+m):=⟨_,rfl⟩
 have h1:=top_le1 V n j (by omega)
 have h2:=top_le2 V n j (by omega) hV
 rw [show n-1=p by omega,show j+n-1=j+p by omega,← hv1e,← hW] at h1
 rw [show n-1=p by omega,show n-2=m by omega,show j+n-2=j+m by omega,← hv1e,← hv2e,← hW] at h2
 rw [show n-1=p by omega,← hv1e] at hv1
 have hE1:=Lib.hid (est1 U W (j+p) v1 (by omega) (by rw [show j+p+2=j+m+3 by omega];exact hUl) h1)
 have hE2:Hid (∀ d l,d*v1+l=u0*18446744073709551616+u1→l*18446744073709551616+u2<d*v2→U/W<d):=by
  intro d l ha hb
  refine est2 U W (j+m) v1 v2 d l (by omega) hUl h2 ?_ ?_
  ·rw [ha,hu0e,hu1e,show j+m+2=j+n by omega,show j+m+1=j+p by omega]
  ·rw [← hu2e];exact hb
 rw [show j+p+1=j+n by omega,← hu0e,← hu1e] at hE1
 have lv1:v1<18446744073709551616:=by rw [hv1e];exact wdn_lt _ _
 have lv2:v2<18446744073709551616:=by rw [hv2e];exact wdn_lt _ _
 have lu0:u0<18446744073709551616:=by rw [hu0e];exact wdn_lt _ _
 have lu1:u1<18446744073709551616:=by rw [hu1e];exact wdn_lt _ _
 have lu2:u2<18446744073709551616:=by rw [hu2e];exact wdn_lt _ _
 have c0:w.cell? ⟨bu,j+n,none⟩=some (.int .u64 (u0:Int)):=by rw [hu0e];exact hbu.cell (rowW_get' 17 U _ (by omega))
 have c1:w.cell? ⟨bu,j+p,none⟩=some (.int .u64 (u1:Int)):=by rw [hu1e];exact hbu.cell (rowW_get' 17 U _ (by omega))
 have c2:w.cell? ⟨bu,j+m,none⟩=some (.int .u64 (u2:Int)):=by rw [hu2e];exact hbu.cell (rowW_get' 17 U _ (by omega))
 have d1:w.cell? ⟨bv,0+p,none⟩=some (.int .u64 (v1:Int)):=by rw [hv1e,Nat.zero_add];exact hbv.cell (rowW_get' 16 V _ (by omega))
 have d2:w.cell? ⟨bv,0+m,none⟩=some (.int .u64 (v2:Int)):=by rw [hv2e,Nat.zero_add];exact hbv.cell (rowW_get' 16 V _ (by omega))
 have d1':w.cell? ⟨bv,p,none⟩=some (.int .u64 (v1:Int)):=by rw [Nat.zero_add] at d1;exact d1
 have d2':w.cell? ⟨bv,m,none⟩=some (.int .u64 (v2:Int)):=by rw [Nat.zero_add] at d2;exact d2
 have n1:IntKind.i64.wrap ((n:Int)-1)=(p:Int):=by rw [IntKind.wrap_i64];omega
 have n2:IntKind.i64.wrap ((n:Int)-2)=(m:Int):=by rw [IntKind.wrap_i64];omega
 have n3:wrap64 ((n:Int)-1)=(p:Int):=by unfold wrap64;omega
 have n4:wrap64 ((n:Int)-2)=(m:Int):=by unfold wrap64;omega
 have n5:(n:Int)-1=(p:Int):=by omega
 have n6:(n:Int)-2=(m:Int):=by omega
 have p1:IntKind.i64.wrap (p:Int)=(p:Int):=by rw [IntKind.wrap_i64];omega
 have p2:IntKind.i64.wrap (m:Int)=(m:Int):=by rw [IntKind.wrap_i64];omega
 have p3:IntKind.i64.wrap (n:Int)=(n:Int):=by rw [IntKind.wrap_i64];omega
 have o1:(p:Int)<(n:Int):=by omega
 have o2:(m:Int)<(n:Int):=by omega
 have o3:(0:Int)≤(p:Int):=by omega
 have o4:(0:Int)≤(m:Int):=by omega
 have o5:(n:Int)<(L:Int):=by omega
 have o6:(p:Int)<(L:Int):=by omega
 have o7:(m:Int)<(L:Int):=by omega
 have o8:n≤capu:=by omega
 have o9:p≤capu:=by omega
 have o10:m≤capu:=by omega
 have o11:p≤capv:=by omega
 have o12:m≤capv:=by omega
 have o14:(n:Int)≤16:=by omega
 have o13:(0:Int)≤(n:Int):=by omega
 have HALL:Hid (n=m+2∧p=m+1∧j+n≤16∧W=V*2^(64*j)∧0<W∧V<2^(64*n)∧U<2^(64*(j+n+1))∧U/W<18446744073709551616∧0<v1):=⟨hm,hp,hn16,hW,hW0,hV,by rw [show j+n+1=j+m+3 by omega];exact hUl,hQ,by omega⟩
 have HL:Hid (v1<18446744073709551616∧v2<18446744073709551616∧u0<18446744073709551616∧u1<18446744073709551616∧u2<18446744073709551616):=⟨lv1,lv2,lu0,lu1,lu2⟩
 rw [← hW]
 have HBU:=Lib.hid hbu
 have HBV:=Lib.hid hbv
 have HNE:=Lib.hid hne
 clear hm hp hn16 hW hW0 hV hUl hQ hV0 hU lv1 lv2 lu0 lu1 lu2 hv1e hv2e hu0e hu1e hu2e h1 h2 hn hv1 hbu hbv hne hcu hcv hL
 go_enter Tryz.func267,Tryz.ntmps267
 go_upto_region 3 with fail
 have HC:Hid (∀ wx,Below w.heap.size w wx→wx.cell? ⟨bu,j+n,none⟩=some (.int .u64 (u0:Int))∧wx.cell? ⟨bu,j+p,none⟩=some (.int .u64 (u1:Int))∧wx.cell? ⟨bu,j+m,none⟩=some (.int .u64 (u2:Int))∧wx.cell? ⟨bv,p,none⟩=some (.int .u64 (v1:Int))∧wx.cell? ⟨bv,m,none⟩=some (.int .u64 (v2:Int))) :=
  fun wx hb=>⟨(hb.cell (p:=⟨bu,j+n,none⟩) HBU.out.lt).trans c0,(hb.cell (p:=⟨bu,j+p,none⟩) HBU.out.lt).trans c1,(hb.cell (p:=⟨bu,j+m,none⟩) HBU.out.lt).trans c2,(hb.cell (p:=⟨bv,p,none⟩) HBV.out.lt).trans d1',(hb.cell (p:=⟨bv,m,none⟩) HBV.out.lt).trans d2'⟩
 clear d1 d2
 replace c0:=cell_regrown c0
 replace c1:=cell_regrown c1
 replace c2:=cell_regrown c2
 replace d1':=cell_regrown d1'
 replace d2':=cell_regrown d2'
 refine wp_region_quiet_below (by kernel_rfl) (by kernel_rfl) ?_
 repeat (go_big_quiet_step (fail))
 refine wpQuiet_nil ?_
 intro wq hwq
 have hbq:=below_of_regrown' hwq
 clear hwq c0 c1 c2 d1' d2'
 have HBQ:=Lib.hid hbq
 clear hbq
 go_upto_if 30 with fail
 go_cut [6] from 7 to 89 (fun s6 wc=>∃ D:Nat,s6 = .int .u64 (D:Int)∧Hid (U/W≤D∧D<18446744073709551616)∧Hid (Below w.heap.size w wc))
 case first =>
  by_cases hlt:u0<v1
  ·have HLT:=Lib.hid hlt
   have hdec:decide (u0<v1)=true:=decide_eq_true hlt
   simp only [hdec]
   clear hdec
   obtain ⟨q,hq⟩:∃ q,q=(u0*18446744073709551616+u1)/v1:=⟨_,rfl⟩
   obtain ⟨r,hr⟩:∃ r,r=(u0*18446744073709551616+u1)%v1:=⟨_,rfl⟩
   have hT:Hid (q*v1+r=u0*18446744073709551616+u1∧U/W≤q∧q<18446744073709551616∧r<18446744073709551616):=by
    refine ⟨by rw [hq,hr,Nat.mul_comm];exact Nat.div_add_mod _ _,by rw [hq];exact hE1.out,?_,?_⟩
    ·rw [hq,Nat.div_lt_iff_lt_mul (by omega)]
     have h1:=Nat.mul_le_mul_right 18446744073709551616 hlt
     have h2:=HL.out.2.2.2.1
     rw [Nat.mul_comm 18446744073709551616]
     have h3:(u0+1)*18446744073709551616=u0*18446744073709551616+18446744073709551616:=by rw [Nat.add_mul]
     have h4:u0.succ*18446744073709551616=(u0+1)*18446744073709551616:=rfl
     omega
    ·have h5:r<v1:=by rw [hr];exact Nat.mod_lt _ (by omega)
     have h6:=HL.out.1
     omega
   have HQ:=Lib.hid hq
   have HR:=Lib.hid hr
   clear hq hr
   go_upto_region 5 with fail
   obtain ⟨c0,c1,c2,d1,d2⟩:=HC.out wq HBQ.out
   replace c0:=cell_regrown c0
   replace c1:=cell_regrown c1
   replace d1:=cell_regrown d1
   clear c2 d2
   refine wp_region_quiet_below (by kernel_rfl) (by kernel_rfl) ?_
   repeat (go_big_quiet_step (exact Calls.regrown_of (div64_g u0 u1 v1 q r _ HLT.out HL.out.1 HL.out.2.2.2.1 HQ.out HR.out)))
   refine wpQuiet_nil ?_
   intro wr hwr
   have hbr:=below_of_regrown' hwr
   have HBR:Hid (Below w.heap.size w wr):=HBQ.out.trans (hbr.mono HBQ.out.size)
   clear hwr hbr c0 c1 d1 hlt
   go_wp2_with fail
   go_loopw [6,7,8,9,10] (fun s6 s7 _ _ _ wx=>∃ D l:Nat,s6 = .int .u64 (D:Int)∧s7 = .int .u64 (l:Int)∧Hid (D*v1+l=u0*18446744073709551616+u1∧U/W≤D∧D<18446744073709551616∧l<18446744073709551616)∧Hid (Below w.heap.size w wx)) (fun s6 _ _ _ _ _=>(intOf s6).toNat)
   case atStart=>exact ⟨q,r,rfl,rfl,hT,HBR⟩
   case round =>
    obtain ⟨D,l,rfl,rfl,HT,HBX⟩:=hrel
    obtain ⟨wx,hwx⟩:∃ wx:World,wx=wr:=⟨_,rfl⟩
    obtain ⟨c0,c1,c2,d1,d2⟩:=HC.out wr HBX.out
    clear c0 c1
    obtain ⟨H,hH⟩:∃ H,H=D*v2/18446744073709551616:=⟨_,rfl⟩
    obtain ⟨Lo,hLo⟩:∃ Lo,Lo=D*v2%18446744073709551616:=⟨_,rfl⟩
    have hdm:H*18446744073709551616+Lo=D*v2:=by rw [hH,hLo];exact split_word _
    have hLol:Lo<18446744073709551616:=by rw [hLo];exact mod64_lt _
    have HH:=Lib.hid hH
    have HLO:=Lib.hid hLo
    have hlb:=HL.out.2.2.2.2
    have hll:=HT.out.2.2.2
    clear hH hLo
    by_cases hA:H<l
    ·clear hdm hLol hlb hll
     go_wp2_with (go_at_call 201;refine (mul64_v D v2 H Lo HT.out.2.2.1 HL.out.2.1 HH.out HLO.out _).mono ?_;rintro e w' ⟨rfl,rfl⟩)
     go_meet
     exact ⟨D,rfl,⟨HT.out.2.1,HT.out.2.2.1⟩,HBX⟩
    ·by_cases hB:H=l∧Lo≤u2
     ·obtain ⟨rfl,hB⟩:=hB
      clear hdm hLol hlb hll
      go_wp2_with (go_at_call 201;refine (mul64_v D v2 H Lo HT.out.2.2.1 HL.out.2.1 HH.out HLO.out _).mono ?_;rintro e w' ⟨rfl,rfl⟩)
      go_meet
      exact ⟨D,rfl,⟨HT.out.2.1,HT.out.2.2.1⟩,HBX⟩
     · have hgt : l * 18446744073709551616 + u2 < D * v2 := by
         rw [← hdm]
         rcases Nat.lt_or_ge l H with h|h
         ·have:=Nat.mul_le_mul_right 18446744073709551616 (show l+1≤H from h)
          rw [Nat.add_mul] at this;omega
         ·have hHl:H=l:=by omega
          rw [hHl]
          have:¬ Lo≤u2:=fun h=>hB ⟨hHl,h⟩
          omega
       have hlt:=hE2.out D l HT.out.1 hgt
       have h0:=Nat.lt_of_le_of_lt (Nat.zero_le _) hlt
       obtain ⟨D',hD'⟩:∃ D',D=D'+1:=⟨D-1,by omega⟩
       obtain ⟨l',hl'⟩:∃ l',l'=(l+v1)%18446744073709551616:=⟨_,rfl⟩
       obtain ⟨k,hk⟩:∃ k,k=(l+v1)/18446744073709551616:=⟨_,rfl⟩
       have hDl:=HT.out.2.2.1
       have hT1:=HT.out.1
       have b1:IntKind.u64.wrap ((D:Int)-1)=(D':Int):=by rw [IntKind.wrap_u64];omega
       have b2:=fun w=>add64_v l v1 l' k hll HL.out.1 hl' hk w
       have HD':Hid (U/W≤D'∧D'<18446744073709551616):=⟨by rw [hD'] at hlt;exact Nat.le_of_lt_succ hlt,by omega⟩
       have HM:Hid (D'<D):=by show D'<D;omega
       have HK:Hid (k=0→D'*v1+l'=u0*18446744073709551616+u1∧U/W≤D'∧D'<18446744073709551616∧l'<18446744073709551616):=by
        intro hk0
        refine ⟨?_,HD'.out.1,HD'.out.2,by rw [hl'];exact mod64_lt _⟩
        have e:D*v1=D'*v1+v1:=by rw [hD',Nat.add_mul,Nat.one_mul]
        rw [e] at hT1
        have:l+v1<18446744073709551616:=by omega
        rw [hl',Nat.mod_eq_of_lt this];omega
       clear hdm hlb hlt h0 hD' hl' hk hDl hT1 hgt
       by_cases hk0:k=0
       ·subst hk0
        have HKK:=Lib.hid (HK.out rfl)
        clear HK
        by_cases hHl:H=l
        ·subst hHl
         have hB':¬ Lo≤u2:=fun h=>hB ⟨rfl,h⟩
         clear hB hll hLol
         go_wp2_with (go_at_call 201;refine (mul64_v D v2 H Lo HT.out.2.2.1 HL.out.2.1 HH.out HLO.out _).mono ?_;rintro e w' ⟨rfl,rfl⟩)
         go_roundw
         case rel=>exact ⟨D',l',rfl,rfl,HKK,HBX⟩
         case measure=>have:=HM.out;simp [intOf];omega
        ·have e1:¬ (H:Int)=(l:Int):=by omega
         clear hB hll hLol
         go_wp2_with (go_at_call 201;refine (mul64_v D v2 H Lo HT.out.2.2.1 HL.out.2.1 HH.out HLO.out _).mono ?_;rintro e w' ⟨rfl,rfl⟩)
         go_roundw
         case rel=>exact ⟨D',l',rfl,rfl,HKK,HBX⟩
         case measure=>have:=HM.out;simp [intOf];omega
       ·have hk1:0<k:=by omega
        clear hk0
        by_cases hHl:H=l
        ·subst hHl
         have hB':¬ Lo≤u2:=fun h=>hB ⟨rfl,h⟩
         clear hB hll hLol
         go_wp2_with (go_at_call 201;refine (mul64_v D v2 H Lo HT.out.2.2.1 HL.out.2.1 HH.out HLO.out _).mono ?_;rintro e w' ⟨rfl,rfl⟩)
         go_meet
         exact ⟨D',rfl,HD',HBX⟩
        ·have e1:¬ (H:Int)=(l:Int):=by omega
         clear hB hll hLol
         go_wp2_with (go_at_call 201;refine (mul64_v D v2 H Lo HT.out.2.2.1 HL.out.2.1 HH.out HLO.out _).mono ?_;rintro e w' ⟨rfl,rfl⟩)
         go_meet
         exact ⟨D',rfl,HD',HBX⟩
  ·have hlt2:¬ u0<v1:=hlt
   go_wp2_with fail
   go_meet
   exact ⟨18446744073709551615,rfl,⟨by have:=HALL.out.2.2.2.2.2.2.2.1;omega,by omega⟩,HBQ⟩
 case rest =>
  obtain ⟨D,rfl,HD,HBC⟩:=hcut
  have HBU0:Hid (Blk wc bu (rowW 17 U) 351):=HBU.out.keep HBC.out
  have HBV0:Hid (Blk wc bv (rowW 16 V) 151):=HBV.out.keep HBC.out
  have HB0:Hid (Below bu w wc):=HBC.out.mono (Nat.le_of_lt HBU.out.lt)
  clear HBC HC
  go_wp2_with fail
  go_loopw [11,12,91] (fun s11 s12 s91 wx=>∃ i A c bo:Nat,i≤n∧s91 = .int .i64 (i:Int)∧s11 = .int .u64 (c:Int)∧s12 = .int .u64 (bo:Int)∧Hid (c<18446744073709551616∧bo≤1∧A+D*(V%2^(64*i))*2^(64*j)=U+(bo+c)*2^(64*(i+j))∧A<2^(64*(j+n+1)))∧Hid (Below bu w wx)∧Hid (Blk wx bu (rowW 17 A) 351)∧Hid (Blk wx bv (rowW 16 V) 151)) (fun _ _ s91 _=>n-(intOf s91).toNat)
  case atStart =>
   exact ⟨0,U,0,0,by omega,rfl,rfl,rfl,⟨by omega,by omega,by simp [Nat.mod_one],HALL.out.2.2.2.2.2.2.1⟩,HB0,HBU0,HBV0⟩
  case round =>
   obtain ⟨i,A,c,bo,hi,rfl,rfl,rfl,HI,HBX,HUX,HVX⟩:=hrel
   by_cases hlt:i<n
   ·have hj16:=HALL.out.2.2.1
    obtain ⟨a,ha⟩:∃ a,a=wdn A (i+j):=⟨_,rfl⟩
    obtain ⟨vi,hvi⟩:∃ vi,vi=wdn V i:=⟨_,rfl⟩
    have la:a<18446744073709551616:=by rw [ha];exact wdn_lt _ _
    have lvi:vi<18446744073709551616:=by rw [hvi];exact wdn_lt _ _
    have e0:wr.cell? ⟨bu,j+i,none⟩=some (.int .u64 (a:Int)):=by rw [ha,Nat.add_comm i j];exact HUX.out.cell (rowW_get' 17 A _ (by omega))
    have e1:wr.cell? ⟨bv,i,none⟩=some (.int .u64 (vi:Int)):=by rw [hvi];exact HVX.out.cell (rowW_get' 16 V _ (by omega))
    have e2:wr.frozen? ⟨bu,j+i,none⟩=false:=HUX.out.frozen _
    obtain ⟨H,Lo,lo,k1,c',hH,hLo,hLol,hlo,hk1,hc',hcl,hlol,hdig⟩:=ms_digit D vi c HD.out.2 lvi HI.out.1
    obtain ⟨t,bo',hbo',hbo1,htl,hsub⟩:=sub_step a lo bo la hlol HI.out.2.1
    have b1:=fun w=>add64_v Lo c lo k1 hLol HI.out.1 hlo hk1 w
    have b2:=fun w=>sub64_v a lo bo t bo' la hlol HI.out.2.1 hbo' hsub w
    have b3:=wrap_u64_v H k1 c' hc' hcl
    have HM:=fun w=>Lib.hid (mul64_v D vi H Lo HD.out.2 lvi hH hLo w)
    have hinv:=ms_step A D V U c bo i j t lo c' bo' HI.out.2.2.1 (by rw [← hvi];exact hdig) (by rw [← ha];exact hsub)
    have HN:Hid (c'<18446744073709551616∧bo'≤1∧setw A (i+j) t+D*(V%2^(64*(i+1)))*2^(64*j)=U+(bo'+c')*2^(64*(i+1+j))∧setw A (i+j) t<2^(64*(j+n+1))):=⟨hcl,hbo1,hinv,setw_lt A (i+j) t (j+n+1) htl (by omega) HI.out.2.2.2⟩
    have HSET:=Lib.hid (rowW_set 17 A (i+j) t htl)
    have i1:(i:Int)<(n:Int):=by omega
    have i2:(i:Int)<(L:Int):=by omega
    have i3:i≤capu:=by omega
    have i4:i≤capv:=by omega
    have i5:(0:Int)≤(i:Int):=by omega
    have q1:i<L:=by omega
    clear ha hvi la lvi hH hLo hLol hlo hk1 hc' hcl hlol hdig hbo' hbo1 htl hsub hinv hj16
    go_wp2_with (go_at_call 201;refine (HM _).out.mono ?_;rintro e w' ⟨rfl,rfl⟩)
    refine ⟨⟨i+1,setw A (i+j) t,c',bo',by omega,by go_num,rfl,rfl,HN,?_,?_,?_⟩,by simp [intOf];omega⟩
    ·exact HBX.out.setCell (by simp) _
    ·have h:=HUX.out.setCell_same (j+i) (.int .u64 (t:Int))
     rw [Nat.add_comm j i,HSET.out] at h
     rw [Nat.add_comm j i];exact h
    ·exact HVX.out.setCell_other (by have:=HNE.out;simp;omega) _
   ·have hin:n=i:=by omega
    subst hin
    have hj16:=HALL.out.2.2.1
    obtain ⟨a,ha⟩:∃ a,a=wdn A (n+j):=⟨_,rfl⟩
    have la:a<18446744073709551616:=by rw [ha];exact wdn_lt _ _
    have e0:wr.cell? ⟨bu,j+n,none⟩=some (.int .u64 (a:Int)):=by rw [ha,Nat.add_comm n j];exact HUX.out.cell (rowW_get' 17 A _ (by omega))
    have e2:wr.frozen? ⟨bu,j+n,none⟩=false:=HUX.out.frozen _
    obtain ⟨t,bo',hbo',hbo1,htl,hsub⟩:=sub_step a c bo la HI.out.1 HI.out.2.1
    have b2:=fun w=>sub64_v a c bo t bo' la HI.out.1 HI.out.2.1 hbo' hsub w
    have hVm:V%2^(64*n)=V:=Nat.mod_eq_of_lt HALL.out.2.2.2.2.2.1
    have hinv:=ms_last A (D*(V%2^(64*n))*2^(64*j)) U c bo (n+j) t bo' HI.out.2.2.1 (by rw [← ha];exact hsub)
    rw [hVm,Nat.mul_assoc,← HALL.out.2.2.2.1] at hinv
    have HN:Hid (bo'≤1∧setw A (n+j) t+D*W=U+bo'*2^(64*(n+j+1))∧setw A (n+j) t<2^(64*(n+j+1))):=⟨hbo1,hinv,setw_lt A (n+j) t (n+j+1) htl (by omega) (by rw [show n+j+1=j+n+1 by omega];exact HI.out.2.2.2)⟩
    have HSET:=Lib.hid (rowW_set 17 A (n+j) t htl)
    have i1:¬ (n:Int)<(n:Int):=by omega
    clear ha la hbo' hbo1 htl hsub hinv hj16 hVm
    go_wp2_with fail
    go_loopw [6,12,17,18] (fun s6 s12 _ _ wx=>∃ D bo A:Nat,s6 = .int .u64 (D:Int)∧s12 = .int .u64 (bo:Int)∧Hid (bo≤1∧A+D*W=U+bo*2^(64*(n+j+1))∧A<2^(64*(n+j+1))∧U/W≤D∧D<18446744073709551616)∧Hid (Below bu w wx)∧Hid (Blk wx bu (rowW 17 A) 351)∧Hid (Blk wx bv (rowW 16 V) 151)) (fun s6 _ _ _ _=>(intOf s6).toNat)
    case atStart =>
     refine ⟨D,bo',setw A (n+j) t,rfl,rfl,⟨HN.out.1,HN.out.2.1,HN.out.2.2,HD.out.1,HD.out.2⟩,?_,?_,?_⟩
     ·exact HBX.out.setCell (by simp) _
     ·have h:=HUX.out.setCell_same (j+n) (.int .u64 (t:Int))
      rw [Nat.add_comm j n,HSET.out] at h
      rw [Nat.add_comm j n];exact h
     ·exact HVX.out.setCell_other (by have:=HNE.out;simp;omega) _
    case round =>
     clear HI HBX HUX HVX HD e0 e2 b2 HN HSET
     obtain ⟨D,bo,A,rfl,rfl,HI,HBX,HUX,HVX⟩:=hrel
     by_cases hb0:bo=0
     ·subst hb0
      have HE:=Lib.hid (digit_done A D W U HALL.out.2.2.2.2.1 HI.out.2.2.2.1 (by have:=HI.out.2.1;rw [Nat.zero_mul,Nat.add_zero] at this;exact this))
      go_wp2_with fail
      go_ret
      exact ⟨by rw [← HE.out.1];rfl,HBX.out,by rw [← HE.out.2];exact HUX.out⟩
     ·have hb1:bo=1:=by have:=HI.out.1;omega
      subst hb1
      rw [show ((1:Nat):Int)=1 from rfl]
      have hlt:=too_great A D W U _ HI.out.2.2.1 HALL.out.2.2.2.2.1 HI.out.2.1
      have hpos:=Nat.lt_of_le_of_lt (Nat.zero_le _) hlt
      obtain ⟨D',hD'⟩:∃ D',D=D'+1:=⟨D-1,by omega⟩
      have HDP:Hid (U/W≤D'∧D'<18446744073709551616∧D=D'+1):=⟨by rw [hD'] at hlt;exact Nat.le_of_lt_succ hlt,by have:=HI.out.2.2.2.2;omega,hD'⟩
      have b1:IntKind.u64.wrap ((D:Int)-1)=(D':Int):=by have:=HI.out.2.2.2.2;rw [IntKind.wrap_u64];omega
      clear hlt hpos hD' hb0
      go_wp2_with fail
      go_loopw [17,18,144] (fun s17 _ s144 wx=>∃ i A1 c:Nat,i≤n∧s144 = .int .i64 (i:Int)∧s17 = .int .u64 (c:Int)∧Hid (c≤1∧A1+c*2^(64*(i+j))=A+V%2^(64*i)*2^(64*j)∧A1<2^(64*(n+j+1)))∧Hid (Below bu w wx)∧Hid (Blk wx bu (rowW 17 A1) 351)∧Hid (Blk wx bv (rowW 16 V) 151)) (fun _ _ s144 _=>n-(intOf s144).toNat)
      case atStart=>exact ⟨0,A,0,by omega,rfl,rfl,⟨by omega,by simp [Nat.mod_one],HI.out.2.2.1⟩,HBX,HUX,HVX⟩
      case round =>
       clear HBX HUX HVX
       obtain ⟨i,A1,c,hi,rfl,rfl,HJ,HBX,HUX,HVX⟩:=hrel
       have hj16:=HALL.out.2.2.1
       by_cases hlt:i<n
       ·obtain ⟨a,ha⟩:∃ a,a=wdn A1 (i+j):=⟨_,rfl⟩
        obtain ⟨vi,hvi⟩:∃ vi,vi=wdn V i:=⟨_,rfl⟩
        have la:a<18446744073709551616:=by rw [ha];exact wdn_lt _ _
        have lvi:vi<18446744073709551616:=by rw [hvi];exact wdn_lt _ _
        have e0:wr.cell? ⟨bu,j+i,none⟩=some (.int .u64 (a:Int)):=by rw [ha,Nat.add_comm i j];exact HUX.out.cell (rowW_get' 17 A1 _ (by omega))
        have e1:wr.cell? ⟨bv,i,none⟩=some (.int .u64 (vi:Int)):=by rw [hvi];exact HVX.out.cell (rowW_get' 16 V _ (by omega))
        have e2:wr.frozen? ⟨bu,j+i,none⟩=false:=HUX.out.frozen _
        obtain ⟨t,ht⟩:∃ t,t=(a+vi+c)%18446744073709551616:=⟨_,rfl⟩
        obtain ⟨c',hc'⟩:∃ c',c'=(a+vi+c)/18446744073709551616:=⟨_,rfl⟩
        have hc1:=HJ.out.1
        have b2:=fun w=>add64_w a vi c t c' la lvi hc1 ht hc' w
        have htl:t<18446744073709551616:=by rw [ht];exact mod64_lt _
        have hsum:t+c'*18446744073709551616=a+vi+c:=by rw [ht,hc',Nat.add_comm];exact split_word _
        have hinv:=ab_step A1 A V c i j t c' HJ.out.2.1 (by rw [← ha,← hvi];exact hsum)
        have HN:Hid (c'≤1∧setw A1 (i+j) t+c'*2^(64*(i+1+j))=A+V%2^(64*(i+1))*2^(64*j)∧setw A1 (i+j) t<2^(64*(n+j+1))):=⟨by omega,hinv,setw_lt A1 (i+j) t (n+j+1) htl (by omega) HJ.out.2.2⟩
        have HSET:=Lib.hid (rowW_set 17 A1 (i+j) t htl)
        have i1:(i:Int)<(n:Int):=by omega
        have i2:(i:Int)<(L:Int):=by omega
        have i3:i≤capu:=by omega
        have i4:i≤capv:=by omega
        have i5:(0:Int)≤(i:Int):=by omega
        clear ha hvi la lvi ht hc' hc1 htl hsum hinv hj16
        go_wp2_with fail
        go_region
        go_wp2_with fail
        refine ⟨⟨i+1,setw A1 (i+j) t,c',by omega,by go_num,rfl,HN,?_,?_,?_⟩,by simp [intOf];omega⟩
        ·exact (HBX.out.drew).setCell (by simp) _
        ·have h:=(HUX.out.drew).setCell_same (j+i) (.int .u64 (t:Int))
         rw [Nat.add_comm j i,HSET.out] at h
         rw [Nat.add_comm j i];exact h
        ·exact (HVX.out.drew).setCell_other (by have:=HNE.out;simp;omega) _
       ·have hin:n=i:=by omega
        subst hin
        obtain ⟨a,ha⟩:∃ a,a=wdn A1 (n+j):=⟨_,rfl⟩
        have la:a<18446744073709551616:=by rw [ha];exact wdn_lt _ _
        have e0:wr.cell? ⟨bu,j+n,none⟩=some (.int .u64 (a:Int)):=by rw [ha,Nat.add_comm n j];exact HUX.out.cell (rowW_get' 17 A1 _ (by omega))
        have e2:wr.frozen? ⟨bu,j+n,none⟩=false:=HUX.out.frozen _
        obtain ⟨t,ht⟩:∃ t,t=(a+0+c)%18446744073709551616:=⟨_,rfl⟩
        obtain ⟨c',hc'⟩:∃ c',c'=(a+0+c)/18446744073709551616:=⟨_,rfl⟩
        have hc1:=HJ.out.1
        have b2:∀ w,(callFunc 202 #[.int .u64 (a:Int),.int .u64 0,.int .u64 (c:Int)]).run Tryz.prog w = .ok (.value (.tuple #[.int .u64 (t:Int),.int .u64 (c':Int)])) w:=fun w=>add64_w a 0 c t c' la (by omega) hc1 ht hc' w
        have htl:t<18446744073709551616:=by rw [ht];exact mod64_lt _
        have hsum:t+c'*18446744073709551616=a+0+c:=by rw [ht,hc',Nat.add_comm];exact split_word _
        have hVm:V%2^(64*n)=V:=Nat.mod_eq_of_lt HALL.out.2.2.2.2.2.1
        have h2:=HJ.out.2.1
        rw [hVm,← HALL.out.2.2.2.1] at h2
        have hinv:=ab_last A1 (A+W) c (n+j) t c' h2 (by rw [← ha];exact hsum)
        have hcl:c'≤1:=by omega
        have hturn:=ab_turn A (setw A1 (n+j) t) D W U 1 c' (2^(64*(n+j+1))) (by have:=HDP.out.2.2;omega) HI.out.2.1 hinv hcl
        rw [show D-1=D' by have:=HDP.out.2.2;omega] at hturn
        obtain ⟨bo2,hbo2⟩:∃ bo2,bo2=1-c':=⟨_,rfl⟩
        rw [← hbo2] at hturn
        have b3:IntKind.u64.wrap (1-(c':Int))=(bo2:Int):=by rw [IntKind.wrap_u64];omega
        have HN:Hid (bo2≤1∧setw A1 (n+j) t+D'*W=U+bo2*2^(64*(n+j+1))∧setw A1 (n+j) t<2^(64*(n+j+1))∧U/W≤D'∧D'<18446744073709551616):=⟨by omega,hturn,setw_lt A1 (n+j) t (n+j+1) htl (by omega) HJ.out.2.2,HDP.out.1,HDP.out.2.1⟩
        have HSET:=Lib.hid (rowW_set 17 A1 (n+j) t htl)
        have i1:¬ (n:Int)<(n:Int):=by omega
        clear ha la ht hc' hc1 htl hsum hinv hj16 hVm h2 hcl hturn hbo2
        go_wp2_with fail
        refine ⟨⟨D',bo2,setw A1 (n+j) t,rfl,rfl,HN,?_,?_,?_⟩,by have:=HDP.out.2.2;simp [intOf];omega⟩
        ·exact HBX.out.setCell (by simp) _
        ·have h:=HUX.out.setCell_same (j+n) (.int .u64 (t:Int))
         rw [Nat.add_comm j n,HSET.out] at h
         rw [Nat.add_comm j n];exact h
        ·exact HVX.out.setCell_other (by have:=HNE.out;simp;omega) _
open Go.RowKit

@[go_sem] theorem put?_putRow_other {w : World} (g o : Nat) (cs : Array Value) (b o' : Nat) (cs' : Array Value) (h : b ≠ g) (hf : w.fits b (o' + cs'.size) = true) (h1 : ones cs' = true) :
    (w.putRow g o cs).put? b o' cs'=some ((w.putRow g o cs).putRow b o' cs') :=
 put?_fits (by rw [fits_putRow _ _ _ _ _ h];exact hf) h1
theorem bodyPost_row2 {P:Program} {fn:Func} {R:Ending→World→Prop} {a:Act} {w:World} {p u:Tmp} {ty ty':TypeId} {g g':Nat} (n n':Nat) (cs cs':Array Value) {d d':TypeDesc}
  (h:fn.results=#[.cell p ty,.cell u ty']) (hde:a.defers = []) (hp:a.tmps.getD p undef = .pointer (some ⟨g,0,none⟩)) (hp':a.tmps.getD u undef = .pointer (some ⟨g',0,none⟩))
  (hu:P.underlying ty=some d) (hd:d.isRow=true) (hi:(P.info? ty).map (·.size)=some n) (hu':P.underlying ty'=some d') (hd':d'.isRow=true) (hi':(P.info? ty').map (·.size)=some n')
  (hg:w.row? g 0 n=some cs) (hg':w.row? g' 0 n'=some cs') (hR:R (.returned (.tuple #[.agg cs,.agg cs'])) w) :
  bodyPost P fn R .ret a w:=by
 refine bodyPost_ret (v := .tuple #[.agg cs,.agg cs']) ?_ hde hR
 have e1:=run_loadVar_row? (P:=P) w g 0 n ty cs d hu hd hi hg
 have e2:=run_loadVar_row? (P:=P) w g' 0 n' ty' cs' d' hu' hd' hi' hg'
 have hq:a.tmps[p]?.getD undef = .pointer (some ⟨g,0,none⟩):=by simpa using hp
 have hq':a.tmps[u]?.getD undef = .pointer (some ⟨g',0,none⟩):=by simpa using hp'
 simp [results,h,hq,hq',asAddr,e1,e2]
theorem divide_lt (N M:Nat) (w:World) (hN:N<W16) (hM:M<W16) (hlt:N<M) :
  Calls Tryz.prog 204 #[.agg (rowW 16 N),.agg (rowW 16 M)] w fun e w'=>e = .returned (.tuple #[.agg (rowW 16 (N/M)),.agg (rowW 16 (N%M))])∧Below w.heap.size w w':=by
 have HN:=Lib.hid hN
 have HM:=Lib.hid hM
 have hc:cmpN N M = -1:=by unfold cmpN;rw [if_pos hlt]
 rw [Nat.div_eq_of_lt hlt,Nat.mod_eq_of_lt hlt]
 clear hN hM hlt
 go_enter Tryz.func204,Tryz.ntmps204
 go_wp2_with fail
 refine (cmp_c _ _ _ _ N M _ HN.out HM.out (.of_blk ((((((Blk.new _ _ _).alloc _).alloc _).alloc _).alloc _).alloc _)) (.of_blk (((((Blk.new' _ _ _ (by simp)).alloc _).alloc _).alloc _).alloc _))).mono ?_;rintro e w1 ⟨rfl,hb1⟩;rw [hc];have z_w1:=hb1.size;(try simp at z_w1);obtain ⟨yw1aa,cw1aa,fw1aa,rw1aa,tw1aa,pw1aa⟩:=bq hb1 (w.heap.size);obtain ⟨yw1ab,cw1ab,fw1ab,rw1ab,tw1ab,pw1ab⟩:=bq hb1 (w.heap.size+1);obtain ⟨yw1ac,cw1ac,fw1ac,rw1ac,tw1ac,pw1ac⟩:=bq hb1 (w.heap.size+1+1);obtain ⟨yw1ad,cw1ad,fw1ad,rw1ad,tw1ad,pw1ad⟩:=bq hb1 (w.heap.size+1+1+1);obtain ⟨yw1ae,cw1ae,fw1ae,rw1ae,tw1ae,pw1ae⟩:=bq hb1 (w.heap.size+1+1+1+1);obtain ⟨yw1af,cw1af,fw1af,rw1af,tw1af,pw1af⟩:=bq hb1 (w.heap.size+1+1+1+1+1)
 go_wp2_with fail
 go_region
 all_goals go_wp2_with fail
 all_goals exact bodyPost_row2 16 16 (rowW 16 0) (rowW 16 N) rfl rfl rfl rfl Tryz.underlying151 rfl info_size Tryz.underlying151 rfl info_size (by go_simp) (by go_simp) ⟨rfl,below_by⟩
theorem cmpN_ge {N M:Nat} (h:M≤N):(0:Int)≤cmpN N M:=by unfold cmpN;split <;> (try split) <;> omega
theorem Blk.fits {w:World} {b:Nat} {c:Array Value} {t:TypeId} (h:Blk w b c t) (n:Nat) (hn:n≤c.size):w.fits b n=true:=by
 unfold World.fits;unfold Blk at h;rw [h];simp [hn]
theorem divide_one (N M:Nat) (w:World) (hN:N<W16) (hM:M<W16) (hge:M≤N) (hM0:M≠0) (hM1:M<18446744073709551616) :
  Calls Tryz.prog 204 #[.agg (rowW 16 N),.agg (rowW 16 M)] w fun e w'=>e = .returned (.tuple #[.agg (rowW 16 (N/M)),.agg (rowW 16 (N%M))])∧Below w.heap.size w w':=by
 have HN:=Lib.hid hN
 have HM:=Lib.hid hM
 have hc:=cmpN_ge hge
 have hcd:decide (cmpN N M<0)=false:=decide_eq_false (by omega)
 have hn1:np M=1:=np_unique M 1 hM1 (.inr (by rw [show 64*(1-1)=0 from rfl,Nat.pow_zero];omega))
 obtain ⟨n,hn⟩:∃ n,n=np N:=⟨_,rfl⟩
 have hn16:n≤16:=by rw [hn];exact (np_le_iff _ _).2 (LtW.of16 hN)
 have HNL:Hid (N<2^(64*n)):=by show N<_;rw [hn];exact np_lt N
 have hb0:Hid (wdn M 0=M):=by show wdn M 0=M;unfold wdn;simpa using hM1
 have HP:Hid (0<M∧M<18446744073709551616):=⟨Nat.pos_of_ne_zero hM0,hM1⟩
 have HNE:=Lib.hid hn
 clear hN hM hge hM0 hM1 hn
 go_enter Tryz.func204,Tryz.ntmps204
 go_wp2_with fail
 refine (cmp_c _ _ _ _ N M _ HN.out HM.out (.of_blk ((((((Blk.new _ _ _).alloc _).alloc _).alloc _).alloc _).alloc _)) (.of_blk (((((Blk.new' _ _ _ (by simp)).alloc _).alloc _).alloc _).alloc _))).mono ?_;rintro e w1 ⟨rfl,hb1⟩
 have Q0:Hid (Blk w1 w.heap.size (rowW 16 N) 151):=Blk.keep ((((((Blk.new _ _ _).alloc _).alloc _).alloc _).alloc _).alloc _) hb1
 have Q1:Hid (Blk w1 (w.heap.size+1) (rowW 16 M) 151):=Blk.keep (((((Blk.new' _ _ _ (by simp)).alloc _).alloc _).alloc _).alloc _) hb1
 have Q2:Hid (Blk w1 (w.heap.size+1+1) (rowW 16 0) 151):=Blk.keep ((((Blk.new' _ _ _ (by simp)).alloc _).alloc _).alloc _) hb1
 have Q3:Hid (Blk w1 (w.heap.size+1+1+1) (rowW 16 0) 151):=Blk.keep (((Blk.new' _ _ _ (by simp)).alloc _).alloc _) hb1
 have Q4:Hid (Blk w1 (w.heap.size+1+1+1+1) (rowW 16 0) 151):=Blk.keep ((Blk.new' _ _ _ (by simp)).alloc _) hb1
 have HB1:Hid (Below w.heap.size w w1):=below_by
 clear hb1
 go_wp2_with fail
 refine (parts_c _ _ N _ HN.out (.of_blk Q0.out)).mono ?_;rintro e w' ⟨rfl,rfl⟩;rw [← HNE.out]
 go_wp2_with fail
 refine (parts_c _ _ M _ HM.out (.of_blk Q1.out)).mono ?_;rintro e w' ⟨rfl,rfl⟩;rw [hn1]
 go_wp2_with fail
 go_loopw [10,11] (fun s10 s11 wx=>∃ k:Nat,k≤n∧s11 = .int .i64 ((k:Int)-1)∧s10 = .int .u64 ((N/2^(64*k)%M:Nat):Int)∧Hid (Below w.heap.size w wx)∧Hid (Blk wx (w.heap.size+1+1+1+1) (rowW 16 (N/2^(64*k)/M*2^(64*k))) 151)∧Hid (Blk wx w.heap.size (rowW 16 N) 151)∧Hid (Blk wx (w.heap.size+1) (rowW 16 M) 151)∧Hid (Blk wx (w.heap.size+1+1) (rowW 16 0) 151)∧Hid (Blk wx (w.heap.size+1+1+1) (rowW 16 0) 151)) (fun _ s11 _=>(intOf s11+1).toNat)
 case atStart =>
  have h0:N/2^(64*n)=0:=Nat.div_eq_of_lt HNL.out
  refine ⟨n,by omega,rfl,by rw [h0,Nat.zero_mod];rfl,HB1,?_,Q0,Q1,Q2,Q3⟩
  rw [h0,Nat.zero_div,Nat.zero_mul];exact Q4
 case round =>
  clear Q0 Q1 Q2 Q3 Q4 HB1
  obtain ⟨k,hk,rfl,rfl,HB1,Q4,Q0,Q1,Q2,Q3⟩:=hrel
  rcases k with _|i
  ·have e0:N/2^(64*0)=N:=by rw [Nat.mul_zero,Nat.pow_zero,Nat.div_one]
   have e1:N/2^(64*0)/M*2^(64*0)=N/M:=by rw [e0,Nat.mul_zero,Nat.pow_zero,Nat.mul_one]
   rw [e1] at Q4
   rw [e0]
   obtain ⟨r,hr⟩:∃ r,r=N%M:=⟨_,rfl⟩
   rw [← hr]
   have hrl:r<18446744073709551616:=by
    have:=Nat.mod_lt N HP.out.1
    have:=HP.out.2
    omega
   have hs:=row_one r hrl
   have HRM:=Lib.hid hr
   have k0:((0:Nat):Int)-1 = -1:=rfl
   rw [k0]
   have z4:=Q4.out.lt
   have y0:w.heap.size<wr.heap.size:=by omega
   have y1:w.heap.size+1<wr.heap.size:=by omega
   have y2:w.heap.size+1+1<wr.heap.size:=by omega
   have y3:w.heap.size+1+1+1<wr.heap.size:=by omega
   have r4:=Q4.out.row?_all 16 (by simp)
   have f2:=Q2.out.fits 16 (by simp)
   have f3:=Q3.out.fits 16 (by simp)
   have p2:=Q2.out.put? 0 (rowW 16 (N/M)) (by simp) (by simp)
   clear hr hrl e0 e1 z4
   go_wp2_with fail
   exact bodyPost_row2 16 16 (rowW 16 (N/M)) (rowW 16 r) rfl rfl rfl rfl Tryz.underlying151 rfl info_size Tryz.underlying151 rfl info_size (by go_simp) (by go_simp) ⟨by rw [HRM.out],below_by⟩
  ·obtain ⟨x,hx⟩:∃ x,x=N/2^(64*(i+1))%M:=⟨_,rfl⟩
   obtain ⟨y,hy⟩:∃ y,y=wdn N i:=⟨_,rfl⟩
   obtain ⟨q,hq⟩:∃ q,q=(x*18446744073709551616+y)/M:=⟨_,rfl⟩
   obtain ⟨r,hr⟩:∃ r,r=(x*18446744073709551616+y)%M:=⟨_,rfl⟩
   rw [← hx]
   have hxM:x<M:=by rw [hx];exact Nat.mod_lt _ HP.out.1
   have hyl:y<18446744073709551616:=by rw [hy];exact wdn_lt _ _
   have hql:q<18446744073709551616:=by
    rw [hq,Nat.div_lt_iff_lt_mul HP.out.1]
    have:=Nat.mul_le_mul_right 18446744073709551616 (show x+1≤M from hxM)
    rw [Nat.add_mul,Nat.mul_comm M] at this;omega
   have ow:=one_words N M i HP.out.1
   rw [← hx,← hy,← hq,← hr] at ow
   have HS:Hid (setw (N/2^(64*(i+1))/M*2^(64*(i+1))) i q=N/2^(64*i)/M*2^(64*i)):=by
    show _=_
    rw [setw_quo,← ow.1,Nat.add_comm q]
   have HSET:=Lib.hid (rowW_set 16 (N/2^(64*(i+1))/M*2^(64*(i+1))) i q hql)
   have HR:Hid (r=N/2^(64*i)%M):=ow.2
   have HDIV:Hid (x<M∧y<18446744073709551616∧q=(x*18446744073709551616+y)/M∧r=(x*18446744073709551616+y)%M):=⟨hxM,hyl,hq,hr⟩
   have e0:wr.cell? ⟨w.heap.size,i,none⟩=some (.int .u64 (y:Int)):=by rw [hy];exact Q0.out.cell (rowW_get' 16 N _ (by omega))
   have e1:wr.cell? ⟨w.heap.size+1,0,none⟩=some (.int .u64 (M:Int)):=by
    have:=Q1.out.cell (rowW_get' 16 M 0 (by omega));rw [hb0.out] at this;exact this
   have e2:wr.frozen? ⟨w.heap.size+1+1+1+1,i,none⟩=false:=Q4.out.frozen _
   have e3:wr.cell? ⟨w.heap.size+1+1+1+1,i,none⟩=some (.int .u64 ((wdn (N/2^(64*(i+1))/M*2^(64*(i+1))) i:Nat):Int)):=Q4.out.cell (rowW_get' 16 _ _ (by omega))
   have k0:((i+1:Nat):Int)-1=(i:Int):=by omega
   have k1:(0:Int)≤(i:Int):=by omega
   have k2:(i:Int)<16:=by omega
   have z4:=Q4.out.lt
   have y0:w.heap.size<wr.heap.size:=by omega
   have y1:w.heap.size+1<wr.heap.size:=by omega
   have y2:w.heap.size+1+1<wr.heap.size:=by omega
   have y3:w.heap.size+1+1+1<wr.heap.size:=by omega
   have y4:w.heap.size+1+1+1+1<wr.heap.size:=by omega
   rw [k0]
   clear hx hy hq hr hxM hyl hql ow z4
   go_wp2_with fail
   go_region_held3 (fun w'=>w'.cell? ⟨w.heap.size,i,none⟩=some (.int .u64 (y:Int))∧w'.cell? ⟨w.heap.size+1,0,none⟩=some (.int .u64 (M:Int))) (go_simp)
    (first
     | (go_at_call 264;refine (div64_g x y M q r _ HDIV.out.1 HP.out.2 HDIV.out.2.1 HDIV.out.2.2.1 HDIV.out.2.2.2).mono ?_;rintro e w2 ⟨rfl,hb2⟩;have z_w2:=hb2.size;(try simp at z_w2);obtain ⟨yw2aa,cw2aa,fw2aa,rw2aa,tw2aa,pw2aa⟩:=bq hb2 (w.heap.size);obtain ⟨yw2ab,cw2ab,fw2ab,rw2ab,tw2ab,pw2ab⟩:=bq hb2 (w.heap.size+1);obtain ⟨yw2ac,cw2ac,fw2ac,rw2ac,tw2ac,pw2ac⟩:=bq hb2 (w.heap.size+1+1);obtain ⟨yw2ad,cw2ad,fw2ad,rw2ad,tw2ad,pw2ad⟩:=bq hb2 (w.heap.size+1+1+1);obtain ⟨yw2ae,cw2ae,fw2ae,rw2ae,tw2ae,pw2ae⟩:=bq hb2 (w.heap.size+1+1+1+1)))
   go_wp2_with fail
   refine ⟨⟨i,by omega,rfl,by rw [← HR.out],?_,?_,?_,?_,?_,?_⟩,(by first|(simp [intOf];done)|(simp [intOf];omega))⟩
   ·exact ((HB1.out.drew).trans (hb2.mono HB1.out.size)).setCell (by simp;omega) _
   ·have h:=(Q4.out.drew.keep hb2).setCell_same i (.int .u64 (q:Int))
    rw [HSET.out,HS.out] at h;exact h
   ·exact (Q0.out.drew.keep hb2).setCell_other (by first|omega|(simp;done)|(simp;omega)|fail) _
   ·exact (Q1.out.drew.keep hb2).setCell_other (by first|omega|(simp;done)|(simp;omega)|fail) _
   ·exact (Q2.out.drew.keep hb2).setCell_other (by first|omega|(simp;done)|(simp;omega)|fail) _
   ·exact (Q3.out.drew.keep hb2).setCell_other (by first|omega|(simp;done)|(simp;omega)|fail) _
open Go.RowKit

/-! ### A number shifted up, word by word -/
theorem fill_lt (N i s:Nat):N%2^(64*i)*2^s/2^(64*i)<2^s:=by
 rw [Nat.div_lt_iff_lt_mul (Nat.two_pow_pos _),Nat.mul_comm]
 exact Nat.mul_lt_mul_of_pos_left (Nat.mod_lt _ (Nat.two_pow_pos _)) (Nat.two_pow_pos _)
theorem fill_or (N i s:Nat) (hs:s≤64):(wdn (N%2^(64*i)*2^s) i ||| (wdn N i*2^s%18446744073709551616))=wdn (N%2^(64*i)*2^s) i+wdn N i*2^s%18446744073709551616 ∧
  wdn (N%2^(64*i)*2^s) i+wdn N i*2^s%18446744073709551616<18446744073709551616∧N%2^(64*i)*2^s/2^(64*i)+wdn N i*2^s%18446744073709551616<18446744073709551616:=by
 have hp:(18446744073709551616:Nat)=2^(64-s)*2^s:=by rw [← Nat.pow_add,show (64-s)+s=64 by omega]
 have h1:=fill_lt N i s
 have h2:wdn (N%2^(64*i)*2^s) i≤N%2^(64*i)*2^s/2^(64*i):=Nat.mod_le _ _
 have h3:wdn N i*2^s%18446744073709551616=(wdn N i%2^(64-s))*2^s:=by
  rw [hp,Nat.mul_mod_mul_right]
 have h4:(wdn N i%2^(64-s))*2^s+2^s≤18446744073709551616:=by
  have:=Nat.mod_lt (wdn N i) (Nat.two_pow_pos (64-s))
  calc (wdn N i%2^(64-s))*2^s+2^s=(wdn N i%2^(64-s)+1)*2^s:=by rw [Nat.add_mul,Nat.one_mul]
   _≤2^(64-s)*2^s:=Nat.mul_le_mul_right _ this
   _=18446744073709551616:=hp.symm
 rw [h3]
 refine ⟨?_,by omega,by omega⟩
 rw [Nat.or_comm,or_parts _ _ _ (Nat.lt_of_le_of_lt h2 h1),Nat.add_comm]
theorem fill_1 (N i s v:Nat) (hv:v=wdn (N%2^(64*i)*2^s) i+wdn N i*2^s%18446744073709551616) :
  setw (N%2^(64*i)*2^s) i v=N%2^(64*i)*2^s+wdn N i*2^s%18446744073709551616*2^(64*i):=setw_add _ _ _ _ hv.symm
theorem fill_aux (a b c P B:Nat):c+b*P+a*(P*B)=c+(B*a+b)*P:=by grind
theorem fill_2 (N i s:Nat) (hs:s≤64):setw (N%2^(64*i)*2^s+wdn N i*2^s%18446744073709551616*2^(64*i)) (i+1) (wdn N i/2^(64-s))=N%2^(64*(i+1))*2^s:=by
 have h3:=(fill_or N i s hs).2.2
 have hx:N%2^(64*i)*2^s+wdn N i*2^s%18446744073709551616*2^(64*i)<2^(64*(i+1)):=by
  rw [pow_succ64,Nat.mul_comm (2^(64*i)) 18446744073709551616,← Nat.div_lt_iff_lt_mul (Nat.two_pow_pos _),Nat.add_mul_div_right _ _ (Nat.two_pow_pos _)]
  exact h3
 have h0:wdn (N%2^(64*i)*2^s+wdn N i*2^s%18446744073709551616*2^(64*i)) (i+1)+wdn N i/2^(64-s)=wdn N i/2^(64-s):=by
  rw [wdn_eq_zero_of_lt _ (i+1) (i+1) hx (Nat.le_refl _),Nat.zero_add]
 rw [setw_add _ _ _ _ h0,cut_succ N i,Nat.add_mul,pow_succ64]
 have hp:(18446744073709551616:Nat)=2^s*2^(64-s):=by rw [← Nat.pow_add,show s+(64-s)=64 by omega]
 have h4:wdn N i*2^s/18446744073709551616=wdn N i/2^(64-s):=by
  conv=>lhs;rw [hp]
  rw [Nat.mul_comm (wdn N i),Nat.mul_div_mul_left _ _ (Nat.two_pow_pos _)]
 have h5:=Nat.div_add_mod (wdn N i*2^s) 18446744073709551616
 rw [h4] at h5
 have h6:2^(64*i)*wdn N i*2^s=(wdn N i*2^s)*2^(64*i):=by rw [Nat.mul_comm (2^(64*i)),Nat.mul_right_comm]
 have h7:wdn N i*2^s*2^(64*i)=(18446744073709551616*(wdn N i/2^(64-s))+wdn N i*2^s%18446744073709551616)*2^(64*i):=by rw [h5]
 rw [h6,h7]
 exact fill_aux _ _ _ _ _
theorem fill_s0 (N i s:Nat) (hs:s=0):N%2^(64*i)*2^s+wdn N i*2^s%18446744073709551616*2^(64*i)=N%2^(64*(i+1))*2^s:=by
 subst hs
 rw [Nat.pow_zero,Nat.mul_one,Nat.mul_one,Nat.mul_one,Nat.mod_eq_of_lt (wdn_lt N i),cut_succ,Nat.mul_comm (wdn N i)]
theorem rowW_zero17:rowW 17 0=#[.int .u64 0,.int .u64 0,.int .u64 0,.int .u64 0,.int .u64 0,.int .u64 0,.int .u64 0,.int .u64 0,.int .u64 0,.int .u64 0,.int .u64 0,.int .u64 0,.int .u64 0,.int .u64 0,.int .u64 0,.int .u64 0,.int .u64 0]:=by
 simp [rowW,Array.ofFn_succ,wd_zero]
@[go_sem ↓] theorem zero_17 (w : World) : (zeroValue 351).run Tryz.prog w = .ok (.agg (rowW 17 0)) w := by
  rw [rowW_zero17];exact Tryz.zeroValue351 w
open Go.RowKit

theorem divide_gen (N M n m:Nat) (w:World) (hN:N<W16) (hM:M<W16) (hge:M≤N) (hn:n=np M) (hm:m=np N) (hn2:2≤n) :
  Calls Tryz.prog 204 #[.agg (rowW 16 N),.agg (rowW 16 M)] w fun e w'=>e = .returned (.tuple #[.agg (rowW 16 (N/M)),.agg (rowW 16 (N%M))])∧Below w.heap.size w w':=by
 have HN:=Lib.hid hN
 have HM:=Lib.hid hM
 have hc:=cmpN_ge hge
 have hcd:decide (cmpN N M<0)=false:=decide_eq_false (by omega)
 have hm16:m≤16:=by rw [hm];exact (np_le_iff _ _).2 (LtW.of16 hN)
 have hnm:n≤m:=by rw [hn,hm];exact (np_le_iff _ _).2 (Nat.lt_of_le_of_lt hge (np_lt N))
 have hM0:M≠0:=fun h=>by rw [h] at hn;have:np 0=0:=rfl;omega
 obtain ⟨p,hp⟩:∃ p,n=p+1:=⟨n-1,by omega⟩
 obtain ⟨y,hy⟩:∃ y,y=wdn M p:=⟨_,rfl⟩
 have hML:M<2^(64*n):=by rw [hn];exact np_lt M
 have hMG:2^(64*(n-1))≤M:=by rw [hn];exact np_le_self M hM0
 have hy0:y≠0:=by
  rw [hy];intro h
  have:=lt_pow_of_wdn_zero M p (by rw [← hp];exact hML) h
  rw [show n-1=p by omega] at hMG
  omega
 have hyl:y<18446744073709551616:=by rw [hy];exact wdn_lt _ _
 obtain ⟨s,hs⟩:∃ s,s=64-bl y:=⟨_,rfl⟩
 obtain ⟨nb,nl,ng⟩:=norm_word y hy0 hyl
 rw [← hs] at nl ng
 have hbp:=bl_pos y hy0
 have hs64:s<64:=by omega
 obtain ⟨V,hV⟩:∃ V,V=M*2^s:=⟨_,rfl⟩
 obtain ⟨A,hA⟩:∃ A,A=N*2^s:=⟨_,rfl⟩
 -- the divisor shifted: as many words, the highest not 0
 have htop:=wdn_top M p (by rw [← hp];exact hML)
 have hVL:V<2^(64*n):=by
  rw [hV,hp,pow_succ64]
  have h1:M<2^(64*p)*(y+1):=by
   rw [hy,htop,Nat.mul_comm,← Nat.div_lt_iff_lt_mul (Nat.two_pow_pos _)];omega
  have h2:(y+1)*2^s≤18446744073709551616:=by
   have hp2:(18446744073709551616:Nat)=2^(64-s)*2^s:=by rw [← Nat.pow_add,show (64-s)+s=64 by omega]
   rw [hp2]
   refine Nat.mul_le_mul_right _ ?_
   have:=bl_lt y
   rw [show 64-s=bl y by omega];omega
  calc M*2^s<2^(64*p)*(y+1)*2^s:=Nat.mul_lt_mul_of_pos_right h1 (Nat.two_pow_pos _)
   _=2^(64*p)*((y+1)*2^s):=Nat.mul_assoc _ _ _
   _≤2^(64*p)*18446744073709551616:=Nat.mul_le_mul_left _ h2
 have hV1:wdn V (n-1)≠0:=by
  intro h
  have h1:=lt_pow_of_wdn_zero V (n-1) (by rw [show n-1+1=n by omega];exact hVL) h
  have h2:2^(64*(n-1))*1≤M*2^s:=Nat.mul_le_mul hMG (Nat.two_pow_pos s)
  rw [← hV] at h2;omega
 have hV0:0<V:=by rw [hV];exact Nat.mul_pos (Nat.pos_of_ne_zero hM0) (Nat.two_pow_pos _)
 have hNL:N<2^(64*m):=by rw [hm];exact np_lt N
 have hAV:A<V*2^(64*(m-n+1)):=by rw [hA,hV];exact norm_lt N M m n s hNL hMG (by omega) hnm
 have hdiv:A/V=N/M:=by rw [hA,hV];exact div_scale N M s
 have hmod:A%V/2^s=N%M:=by rw [hA,hV];exact mod_scale N M s
 have hVW:V<W16:=by
  have:∀ k,k=16→V<2^(64*k):=fun k hk=>Nat.lt_of_lt_of_le hVL (pow2_le _ _ (by omega))
  have h:=this 16 rfl
  rwa [← W16_eq 16 rfl] at h
 have HALL:Hid (n=p+1∧y=wdn M p∧y<18446744073709551616∧s=64-bl y∧s<64∧V=M*2^s∧A=N*2^s∧V<2^(64*n)∧wdn V (n-1)≠0∧0<V∧A<V*2^(64*(m-n+1))∧A/V=N/M∧A%V/2^s=N%M∧V<W16∧n≤m∧m≤16∧2≤n) :=
  ⟨hp,hy,hyl,hs,hs64,hV,hA,hVL,hV1,hV0,hAV,hdiv,hmod,hVW,hnm,hm16,hn2⟩
 have HNE:=Lib.hid hn
 have HME:=Lib.hid hm
 have z1:(n:Int)≤16:=by omega
 have z2:(m:Int)≤16:=by omega
 have z3:(n:Int)≤(m:Int):=by omega
 have z4:(p:Int)<16:=by omega
 have z5:(0:Int)≤(p:Int):=by omega
 have z6:¬ (n:Int)=1:=by omega
 have z7:(n:Int)-1=(p:Int):=by omega
 have z8:((n:Int)==1)=false:=by simp;omega
 have z9:(s:Int)<64:=by omega
 clear hN hM hge hn hm hp hy hyl hs hs64 nb nl ng hbp hV hA htop hVL hV1 hV0 hAV hdiv hmod hVW hnm hm16 hn2 hM0 hML hMG hy0 hNL
 go_enter Tryz.func204,Tryz.ntmps204
 go_wp2_with fail
 refine (cmp_c _ _ _ _ N M _ HN.out HM.out (.of_blk ((((((Blk.new _ _ _).alloc _).alloc _).alloc _).alloc _).alloc _)) (.of_blk (((((Blk.new' _ _ _ (by simp)).alloc _).alloc _).alloc _).alloc _))).mono ?_;rintro e w1 ⟨rfl,hb1⟩
 have Q0:Hid (Blk w1 w.heap.size (rowW 16 N) 151):=Blk.keep ((((((Blk.new _ _ _).alloc _).alloc _).alloc _).alloc _).alloc _) hb1
 have Q1:Hid (Blk w1 (w.heap.size+1) (rowW 16 M) 151):=Blk.keep (((((Blk.new' _ _ _ (by simp)).alloc _).alloc _).alloc _).alloc _) hb1
 have Q2:Hid (Blk w1 (w.heap.size+1+1) (rowW 16 0) 151):=Blk.keep ((((Blk.new' _ _ _ (by simp)).alloc _).alloc _).alloc _) hb1
 have Q3:Hid (Blk w1 (w.heap.size+1+1+1) (rowW 16 0) 151):=Blk.keep (((Blk.new' _ _ _ (by simp)).alloc _).alloc _) hb1
 have Q4:Hid (Blk w1 (w.heap.size+1+1+1+1) (rowW 16 0) 151):=Blk.keep ((Blk.new' _ _ _ (by simp)).alloc _) hb1
 have Q5:Hid (Blk w1 (w.heap.size+1+1+1+1+1) (rowW 16 0) 151):=Blk.keep (Blk.new' _ _ _ (by simp)) hb1
 have HB1:Hid (Below w.heap.size w w1):=below_by
 clear hb1
 have e0:w1.cell? ⟨w.heap.size+1,p,none⟩=some (.int .u64 (y:Int)):=by rw [HALL.out.2.1];exact Q1.out.cell (rowW_get' 16 M _ (by omega))
 go_wp2_with fail
 refine (parts_c _ _ N _ HN.out (.of_blk Q0.out)).mono ?_;rintro e w' ⟨rfl,rfl⟩;rw [← HME.out]
 go_wp2_with fail
 refine (parts_c _ _ M _ HM.out (.of_blk Q1.out)).mono ?_;rintro e w' ⟨rfl,rfl⟩;rw [← HNE.out]
 go_wp2_with fail
 refine (lz64_s y s _ HALL.out.2.2.1 HALL.out.2.2.2.1).mono ?_;rintro e w' ⟨rfl,rfl⟩
 go_wp2_with fail
 refine (up_c _ _ M s _ (by have:=HALL.out.2.2.2.2.1;omega) (.of_blk Q1.out)).mono ?_;rintro e w2 ⟨rfl,hb2⟩;rw [← HALL.out.2.2.2.2.2.1]
 replace Q0:=Lib.hid (Q0.out.keep hb2)
 replace Q2:=Lib.hid (Q2.out.keep hb2)
 replace Q3:=Lib.hid (Q3.out.keep hb2)
 replace Q4:=Lib.hid (Q4.out.keep hb2)
 replace Q5:=Lib.hid (Q5.out.keep hb2)
 replace HB1:=Lib.hid (HB1.out.trans (hb2.mono HB1.out.size))
 have hg5:=Q5.out.lt
 clear hb2 e0 Q1
 go_upto_region 15 with fail
 obtain ⟨g,hg⟩:∃ g,g=w2.heap.size:=⟨_,rfl⟩
 have QV:Hid (Blk ((w2.alloc (.cells (rowW 16 V) 151)).alloc (.cells (rowW 17 0) 351)) g (rowW 16 V) 151):=by rw [hg];exact (Blk.new _ _ _).alloc _
 have QU:Hid (Blk ((w2.alloc (.cells (rowW 16 V) 151)).alloc (.cells (rowW 17 0) 351)) (g+1) (rowW 17 0) 351):=by rw [hg];exact Blk.new' _ _ _ (by simp)
 replace Q0:=Lib.hid ((Q0.out.alloc (.cells (rowW 16 V) 151)).alloc (.cells (rowW 17 0) 351))
 replace Q2:=Lib.hid ((Q2.out.alloc (.cells (rowW 16 V) 151)).alloc (.cells (rowW 17 0) 351))
 replace Q3:=Lib.hid ((Q3.out.alloc (.cells (rowW 16 V) 151)).alloc (.cells (rowW 17 0) 351))
 replace Q4:=Lib.hid ((Q4.out.alloc (.cells (rowW 16 V) 151)).alloc (.cells (rowW 17 0) 351))
 replace Q5:=Lib.hid ((Q5.out.alloc (.cells (rowW 16 V) 151)).alloc (.cells (rowW 17 0) 351))
 replace HB1:=Lib.hid ((HB1.out.alloc HB1.out.size (.cells (rowW 16 V) 151)).alloc (by have:=HB1.out.size;simp;omega) (.cells (rowW 17 0) 351))
 rw [← hg] at hg5
 have hws:w.heap.size≤g:=by omega
 simp only [← hg]
 generalize (w2.alloc (.cells (rowW 16 V) 151)).alloc (.cells (rowW 17 0) 351)=w3 at *
 clear hg
 have hs:s<64:=HALL.out.2.2.2.2.1
 go_wp2_with fail
 go_loopw [15,53] (fun _ s53 wx=>∃ i:Nat,i≤16∧s53 = .int .i64 (i:Int)∧Hid (Below (g+1) w3 wx)∧Hid (Blk wx (g+1) (rowW 17 (N%2^(64*i)*2^s)) 351)) (fun _ s53 _=>16-(intOf s53).toNat)
 case atStart =>
  refine ⟨0,by omega,rfl,Below.refl _ _,?_⟩
  have:N%2^(64*0)*2^s=0:=by simp [Nat.mod_one]
  rw [this];exact QU
 case round =>
  obtain ⟨i,hi,rfl,HBX,HUX⟩:=hrel
  by_cases hlt:i<16
  ·obtain ⟨x,hx⟩:∃ x,x=N%2^(64*i)*2^s:=⟨_,rfl⟩
   obtain ⟨t,ht⟩:∃ t,t=wdn x i:=⟨_,rfl⟩
   obtain ⟨a,ha⟩:∃ a,a=wdn N i:=⟨_,rfl⟩
   obtain ⟨v1,hv1⟩:∃ v1,v1=a*2^s%18446744073709551616:=⟨_,rfl⟩
   obtain ⟨v,hv⟩:∃ v,v=t ||| v1:=⟨_,rfl⟩
   obtain ⟨v2,hv2⟩:∃ v2,v2=a/2^(64-s):=⟨_,rfl⟩
   have al:a<18446744073709551616:=by rw [ha];exact wdn_lt _ _
   have tl:t<18446744073709551616:=by rw [ht];exact wdn_lt _ _
   have v1l:v1<18446744073709551616:=by rw [hv1];exact mod64_lt _
   have v2l:v2<18446744073709551616:=by rw [hv2];exact Nat.lt_of_le_of_lt (Nat.div_le_self _ _) al
   have fo:=fill_or N i s (by omega)
   rw [← hx,← ha,← ht,← hv1,← hv] at fo
   rw [← hx] at HUX
   have f1:=fill_1 N i s v (by rw [← hx,← ha,← ht,← hv1];exact fo.1)
   have f2:=fill_2 N i s (by omega)
   have f0:=fun h=>fill_s0 N i s h
   rw [← hx,← ha,← hv1] at f1 f2
   rw [← hv2] at f2
   simp only [← hx,← ha,← hv1] at f0
   have vl:v<18446744073709551616:=by rw [fo.1];exact fo.2.1
   have s1:IntKind.u64.wrap ((a:Int)*2^s)=(v1:Int):=by rw [hv1];exact shl_u64 _ _
   have s2:bits .or .u64 (t:Int) (v1:Int)=(v:Int):=by rw [hv];exact bits_or_u64_nat _ _ tl v1l
   have s3:(a:Int)/2^(64-s)=(v2:Int):=by rw [hv2];exact shr_u64 _ _ _ rfl
   have S1:=Lib.hid (rowW_set 17 x i v vl)
   have S2:=Lib.hid (rowW_set 17 (x+v1*2^(64*i)) (i+1) v2 v2l)
   rw [f1] at S1
   have F2:=Lib.hid f2
   have F0:=Lib.hid f0
   have c0:wr.cell? ⟨w.heap.size,i,none⟩=some (.int .u64 (a:Int)):=by rw [ha];exact (Q0.out.below HBX.out (by omega)).cell (rowW_get' 16 N _ (by omega))
   have c1:wr.cell? ⟨g+1,i,none⟩=some (.int .u64 (t:Int)):=by rw [ht];exact HUX.out.cell (rowW_get' 17 x _ (by omega))
   have c2:wr.frozen? ⟨g+1,i,none⟩=false:=HUX.out.frozen _
   have c3:wr.cell? ⟨g+1,i+1,none⟩=some (.int .u64 ((wdn x (i+1):Nat):Int)):=HUX.out.cell (rowW_get' 17 x _ (by omega))
   have c4:wr.frozen? ⟨g+1,i+1,none⟩=false:=HUX.out.frozen _
   have i1:(i:Int)<16:=by omega
   have i2:(i:Int)<17:=by omega
   have i3:(i:Int)+1<17:=by omega
   have i4:(0:Int)≤(i:Int):=by omega
   have i5:¬ (w.heap.size=g+1):=by omega
   have i6:¬ (g+1=w.heap.size):=by omega
   clear hx ht ha hv1 hv hv2 al tl v1l v2l fo f1 f2 f0 vl
   by_cases hs0:s=0
   ·have j1:¬ 0<s:=by omega
    have F:=Lib.hid (F0.out hs0)
    clear hs0 F0
    go_wp2_with fail
    go_region
    go_wp2_with fail
    refine ⟨⟨i+1,by omega,by go_num,(HBX.out.setCell (by simp) _).drew,?_⟩,(by first|(simp [intOf];done)|(simp [intOf];omega))⟩
    have h:=HUX.out.setCell_same i (.int .u64 (v:Int))
    rw [S1.out,F.out] at h
    exact h.drew
   ·have j1:0<s:=by omega
    clear hs0 F0
    go_wp2_with fail
    go_region
    go_wp2_with fail
    refine ⟨⟨i+1,by omega,by go_num,((HBX.out.setCell (by simp) _).drew).setCell (by simp) _,?_⟩,(by first|(simp [intOf];done)|(simp [intOf];omega))⟩
    have h:=HUX.out.setCell_same i (.int .u64 (v:Int))
    rw [S1.out] at h
    have h2:=(h.drew).setCell_same (i+1) (.int .u64 (v2:Int))
    rw [S2.out,F2.out] at h2
    exact h2
  ·have hi16:i=16:=by omega
   have hNi:N%2^(64*i)=N:=Nat.mod_eq_of_lt (LtW.of_eq hi16 HN.out)
   rw [hNi,← HALL.out.2.2.2.2.2.2.1] at HUX
   have i1:¬ (i:Int)<16:=by omega
   replace Q2:=Lib.hid (Q2.out.below HBX.out (by omega))
   replace Q3:=Lib.hid (Q3.out.below HBX.out (by omega))
   replace Q4:=Lib.hid (Q4.out.below HBX.out (by omega))
   replace Q5:=Lib.hid (Q5.out.below HBX.out (by omega))
   replace QV:=Lib.hid (QV.out.below HBX.out (by omega))
   replace HB1:=Lib.hid (HB1.out.trans (HBX.out.mono (by omega)))
   clear Q0 QU HBX hNi hi16 hlt
   have k0:wrap64 ((m:Int)-(n:Int))=((m-n:Nat):Int):=by unfold wrap64;omega
   have k0':(m:Int)-(n:Int)=((m-n:Nat):Int):=by omega
   obtain ⟨K,hK⟩:∃ K,K=m-n:=⟨_,rfl⟩
   rw [← hK] at k0 k0'
   have HK:=Lib.hid hK
   clear hK
   go_wp2_with fail
   go_loopw [16] (fun s16 wx=>∃ k:Nat,k≤K+1∧s16 = .int .i64 ((k:Int)-1)∧Hid (Below w.heap.size w wx)∧Hid (Blk wx (w.heap.size+1+1) (rowW 16 0) 151)∧Hid (Blk wx (w.heap.size+1+1+1) (rowW 16 0) 151)∧Hid (Blk wx (w.heap.size+1+1+1+1) (rowW 16 (A/(V*2^(64*k))*2^(64*k))) 151)∧Hid (Blk wx (w.heap.size+1+1+1+1+1) (rowW 16 0) 151)∧Hid (Blk wx g (rowW 16 V) 151)∧Hid (Blk wx (g+1) (rowW 17 (A%(V*2^(64*k)))) 351)) (fun s16 _=>(intOf s16+1).toNat)
   case atStart =>
    have hAV:=HALL.out.2.2.2.2.2.2.2.2.2.2.1
    rw [← HK.out] at hAV
    refine ⟨K+1,by omega,by rw [show ((K+1:Nat):Int)-1=(K:Int) by omega],HB1,Q2,Q3,?_,Q5,QV,?_⟩
    ·rw [Nat.div_eq_of_lt hAV,Nat.zero_mul];exact Q4
    ·rw [Nat.mod_eq_of_lt hAV];exact HUX
   case round =>
    clear HB1 Q2 Q3 Q4 Q5 QV HUX i1 hi
    obtain ⟨k,hk,rfl,HB1,Q2,Q3,Q4,Q5,QV,QU⟩:=hrel
    rcases k with _|j
    ·have e1:A/(V*2^(64*0))*2^(64*0)=N/M:=by rw [Nat.mul_zero,Nat.pow_zero,Nat.mul_one,Nat.mul_one];exact HALL.out.2.2.2.2.2.2.2.2.2.2.2.1
     have e2:A%(V*2^(64*0))=A%V:=by rw [Nat.mul_zero,Nat.pow_zero,Nat.mul_one]
     rw [e1] at Q4
     rw [e2] at QU
     obtain ⟨R,hR⟩:∃ R,R=A%V:=⟨_,rfl⟩
     rw [← hR] at QU
     have hRV:R<V:=by rw [hR];exact Nat.mod_lt _ HALL.out.2.2.2.2.2.2.2.2.2.1
     have hRW:Hid (R<W16):=by
      have:=HALL.out.2.2.2.2.2.2.2.2.2.2.2.2.2.1
      show R<W16;omega
     have HRE:Hid (R/2^s=N%M):=by show _=_;rw [hR];exact HALL.out.2.2.2.2.2.2.2.2.2.2.2.2.1
     have k0:((0:Nat):Int)-1 = -1:=rfl
     rw [k0]
     clear e1 e2 hR hRV k0
     go_wp2_with fail
     refine still_tail 2 (by kernel_rfl) (by kernel_rfl) ?_
     simp only [List.take_succ_cons,List.take_zero,List.drop_succ_cons,List.drop_zero];(repeat still_step);(try refine wpStill_nil ?_)
     go_wp2_with (refine wpList_copy_splice rfl _ _ 279 279 rfl 53 Tryz.underlying279 info_word _ _ 16 16 16 17 rfl rfl (w.heap.size+1+1+1+1+1) 0 (rowW 16 0).toList 151 (by rw [Array.toArray_toList];exact Q5.out.drew) (rowW 16 R).toList (by simp) (fun _=>⟨rfl,_,rfl,fun j v hv=>?_⟩) (by simp) ?_ (w.heap.size+1+1+1+1+1) wr.drew (Below.refl _ _) (Nat.le_refl _) ?_)
     · have hj : j < 16 := by
         have:=(List.getElem?_eq_some_iff.1 hv).1
         simpa using this
       rw [Array.getElem?_toList,rowW_get 16 R j hj] at hv
       rw [Addr.add_mid,← hv,Nat.zero_add]
       exact (Blk.cell QU.out.drew (by rw [rowW_get 17 R j (by omega)]))
     ·intro v hv
      exact (Array.all_eq_true_iff_forall_mem.1 (rowW_oneCell 16 R)) v (by simpa using hv)
     intro w5 hg5' hb5
     have q5:Blk w5 (w.heap.size+1+1+1+1+1) (rowW 16 R) 151:=by have:=hg5'.out;rw [row_copy] at this;exact this
     have q2:Blk w5 (w.heap.size+1+1) (rowW 16 0) 151:=Q2.out.drew.below hb5 (by omega)
     have q3:Blk w5 (w.heap.size+1+1+1) (rowW 16 0) 151:=Q3.out.drew.below hb5 (by omega)
     have q4:Blk w5 (w.heap.size+1+1+1+1) (rowW 16 (N/M)) 151:=Q4.out.drew.below hb5 (by omega)
     have HB5:Hid (Below w.heap.size w w5):=(HB1.out.drew).trans (hb5.mono (by omega))
     have R5:=Lib.hid q5
     have R2:=Lib.hid q2
     have R3:=Lib.hid q3
     have R4:=Lib.hid q4
     clear q5 q2 q3 q4 hb5 hg5' HB1
     go_wp2_with fail
     refine (down_c _ _ R s _ hRW.out (by have:=HALL.out.2.2.2.2.1;omega) (.of_blk R5.out)).mono ?_;rintro e w6 ⟨rfl,hb6⟩;rw [HRE.out]
     have q5:=R5.out.keep hb6
     have q2:=R2.out.keep hb6
     have q3:=R3.out.keep hb6
     have q4:=R4.out.keep hb6
     have z6:=q5.lt
     have y2:w.heap.size+1+1<w6.heap.size:=by omega
     have y3:w.heap.size+1+1+1<w6.heap.size:=by omega
     have y4:w.heap.size+1+1+1+1<w6.heap.size:=by omega
     have y5:w.heap.size+1+1+1+1+1<w6.heap.size:=by omega
     have r4:=q4.row?_all 16 (by simp)
     have f2:=q2.fits 16 (by simp)
     have f3:=q3.fits 16 (by simp)
     have f5:=q5.fits 16 (by simp)
     have p5:=q5.put? 0 (rowW 16 (N%M)) (by simp) (by simp)
     have p2:=q2.put? 0 (rowW 16 (N/M)) (by simp) (by simp)
     have HB6:Hid (Below w.heap.size w w6):=HB5.out.trans (hb6.mono HB5.out.size)
     clear q5 q2 q3 q4 hb6 HB5 z6
     go_wp2_with fail
     go_region
     all_goals go_wp2_with fail
     all_goals exact bodyPost_row2 16 16 (rowW 16 (N/M)) (rowW 16 (N%M)) rfl rfl rfl rfl Tryz.underlying151 rfl info_size Tryz.underlying151 rfl info_size (by go_simp) (by go_simp) ⟨rfl,below_by⟩
    ·obtain ⟨U,hU⟩:∃ U,U=A%(V*2^(64*(j+1))):=⟨_,rfl⟩
     obtain ⟨d,hd⟩:∃ d,d=U/(V*2^(64*j)):=⟨_,rfl⟩
     obtain ⟨L,hL⟩:∃ L,L=n+1:=⟨_,rfl⟩
     obtain ⟨cu,hcu⟩:∃ cu,cu=17-j:=⟨_,rfl⟩
     have hV0:=HALL.out.2.2.2.2.2.2.2.2.2.1
     have hUV:U<V*2^(64*(j+1)):=by rw [hU];exact Nat.mod_lt _ (Nat.mul_pos hV0 (Nat.two_pow_pos _))
     have hKe:=HK.out
     have hnm:=HALL.out.2.2.2.2.2.2.2.2.2.2.2.2.2.2
     have hdl:d<18446744073709551616:=by rw [hd];exact digit_lt U V j hV0 hUV
     rw [← hU] at QU
     have hqw:=quo_words A V j d (by rw [← hU];exact hd)
     have hrw:=rest_words A V j
     rw [← hU] at hrw
     have HS:=Lib.hid (rowW_set 16 (A/(V*2^(64*(j+1)))*2^(64*(j+1))) j d hdl)
     rw [hqw] at HS
     have HRW:=Lib.hid hrw
     have HST:Hid (2≤n∧j+n≤16∧L=n+1∧L≤cu∧U<V*2^(64*(j+1))∧d=U/(V*2^(64*j))):=⟨hnm.2.2,by omega,hL,by omega,hUV,hd⟩
     have k1:((j+1:Nat):Int)-1=(j:Int):=by omega
     have k2:(0:Int)≤(j:Int):=by omega
     have k3:(j:Int)<16:=by omega
     obtain ⟨c,hc1⟩:∃ c,c=j+n:=⟨_,rfl⟩
     obtain ⟨e,he1⟩:∃ e,e=c+1:=⟨_,rfl⟩
     have k4:IntKind.i64.wrap ((j:Int)+(n:Int))=(c:Int):=by rw [IntKind.wrap_i64];omega
     have k5:IntKind.i64.wrap ((c:Int)+1)=(e:Int):=by rw [IntKind.wrap_i64];omega
     have k6:(j:Int)≤(e:Int):=by omega
     have k7:(e:Int)≤17:=by omega
     have k8:e-j=L:=by omega
     have k9:17-j=cu:=by omega
     have k10:(e:Int)-(j:Int)=(L:Int):=by omega
     have k11:(17:Int)-(j:Int)=(cu:Int):=by omega
     have k12:(0:Int)≤(e:Int):=by omega
     have k13:(0:Int)≤(n:Int):=by omega
     have k14:j≤e:=by omega
     have k15:e≤17:=by omega
     have k16:n≤16:=by omega
     have k17:¬ 17=j:=by omega
     have f4:wr.frozen? ⟨w.heap.size+1+1+1+1,j,none⟩=false:=Q4.out.frozen _
     have c4:wr.cell? ⟨w.heap.size+1+1+1+1,j,none⟩=some (.int .u64 ((wdn (A/(V*2^(64*(j+1)))*2^(64*(j+1))) j:Nat):Int)):=Q4.out.cell (rowW_get' 16 _ _ (by omega))
     clear hc1 he1
     rw [k1]
     clear hU hd hL hcu hV0 hUV hKe hnm hdl hqw hrw
     go_wp2_with fail
     go_region_held3 (fun w'=>w'.frozen? ⟨w.heap.size+1+1+1+1,j,none⟩=false) (go_simp)
      (first
       | (go_at_call 267
          refine (step_c (g+1) g U V n j L cu 16 _ HST.out.1 HST.out.2.1 HST.out.2.2.1 HST.out.2.2.2.1 (by have:=HST.out.2.1;omega) HALL.out.2.2.2.2.2.2.2.1 HALL.out.2.2.2.2.2.2.2.2.1 HST.out.2.2.2.2.1 QU.out.drew QV.out.drew (by omega)).mono ?_
          rintro e w4 ⟨rfl,hb4,hu4⟩
          rw [← HST.out.2.2.2.2.2]
          have f4:w4.frozen? ⟨w.heap.size+1+1+1+1,j,none⟩=false:=(Q4.out.drew.below hb4 (by omega)).frozen _
          have c4:w4.cell? ⟨w.heap.size+1+1+1+1,j,none⟩=some (.int .u64 ((wdn (A/(V*2^(64*(j+1)))*2^(64*(j+1))) j:Nat):Int)):=(Q4.out.drew.below hb4 (by omega)).cell (rowW_get' 16 _ _ (by omega))))
     go_wp2_with fail
     refine ⟨⟨j,by omega,rfl,?_,?_,?_,?_,?_,?_,?_⟩,(by first|(simp [intOf];done)|(simp [intOf];omega))⟩
     ·exact ((HB1.out.drew).trans (hb4.mono (by omega))).setCell (by simp;omega) _
     ·exact (Q2.out.drew.below hb4 (by omega)).setCell_other (by first|omega|(simp;done)|(simp;omega)|fail) _
     ·exact (Q3.out.drew.below hb4 (by omega)).setCell_other (by first|omega|(simp;done)|(simp;omega)|fail) _
     ·have h:=(Q4.out.drew.below hb4 (by omega)).setCell_same j (.int .u64 (d:Int))
      rw [HS.out] at h;exact h
     ·exact (Q5.out.drew.below hb4 (by omega)).setCell_other (by first|omega|(simp;done)|(simp;omega)|fail) _
     ·exact (QV.out.drew.below hb4 (by omega)).setCell_other (by first|omega|(simp;done)|(simp;omega)|fail) _
     ·rw [← HRW.out];exact hu4.setCell_other (by first|omega|(simp;done)|(simp;omega)|fail) _
open Go.RowKit

theorem divide_c (N M:Nat) (w:World) (hN:N<W16) (hM:M<W16) (h0:M≠0) :
  Calls Tryz.prog 204 #[.agg (rowW 16 N),.agg (rowW 16 M)] w fun e w'=>e = .returned (.tuple #[.agg (rowW 16 (N/M)),.agg (rowW 16 (N%M))])∧Below w.heap.size w w':=by
 rcases Nat.lt_or_ge N M with h|h
 ·exact divide_lt N M w hN hM h
 ·by_cases h1:np M≤1
  ·exact divide_one N M w hN hM h h0 ((np_le_iff M 1).1 h1)
  ·exact divide_gen N M _ _ w hN hM h rfl rfl (by omega)
def WI.div (x y:WI):WI × Int :=
 match x.v,y.v with
 | some a,some b=>if b=0 then (WI.of 0,1) else (WI.of (a.fdiv b),0)
 | _,_=>(WI.of 0,2)
theorem WI.of_0:(WI.of 0).cells=cellsI false false 0:=by
 have:=WI.of_sgn (n:=false) (N:=0) (by rw [bl_zero];omega)
 exact this
theorem WI.div_over (x y:WI) (h:x.ov=true∨y.ov=true):x.div y=(WI.of 0,2):=by
 unfold WI.div;unfold WI.ov at h
 cases hx:x.v <;> cases hy:y.v <;> simp_all
theorem WI.div_zero (x y:WI) (hx:x.ov=false) (hy:y.ov=false) (h:y.sz=0):x.div y=(WI.of 0,1):=by
 unfold WI.div;rw [WI.some_of_ov hx,WI.some_of_ov hy,h];simp [sgn]
theorem fdiv_nat (a b:Nat):(a:Int).fdiv (b:Int)=((a/b:Nat):Int):=by
 rw [Int.fdiv_eq_ediv_of_nonneg _ (by omega),Int.natCast_ediv]
theorem sgn_fdiv (n m:Bool) (N M:Nat) (hM:M≠0):(sgn n N).fdiv (sgn m M)=sgn (n != m) (if (n != m)&&decide (N%M≠0) then N/M+1 else N/M):=by
 have hdm:=Nat.div_add_mod N M
 have hlt:=Nat.mod_lt N (Nat.pos_of_ne_zero hM)
 have key:∀ q:Nat,q=(if decide (N%M≠0) then N/M+1 else N/M)→(-(N:Int)).fdiv (M:Int) = -(q:Int):=by
  intro q hq
  rw [Int.fdiv_eq_ediv_of_nonneg _ (by omega)]
  by_cases h0:N%M=0
  ·have hq':q=N/M:=by rw [hq];simp [h0]
   rw [hq']
   have e : -(N:Int) = -((N/M:Nat):Int)*(M:Int):=by
    rw [h0,Nat.add_zero] at hdm
    conv=>lhs;rw [← hdm]
    rw [Int.natCast_mul,Int.neg_mul,Int.mul_comm]
   rw [e,Int.mul_ediv_cancel _ (by omega)]
  ·have hq':q=N/M+1:=by rw [hq];simp [h0]
   rw [hq']
   have e : -(N:Int)=((M-N%M:Nat):Int)+(-((N/M+1:Nat):Int))*(M:Int):=by
    have e1:(N:Int)=(M:Int)*((N/M:Nat):Int)+((N%M:Nat):Int):=by rw [← Int.natCast_mul,← Int.natCast_add,hdm]
    rw [Int.ofNat_sub (Nat.le_of_lt hlt)]
    conv=>lhs;rw [e1]
    rw [Int.natCast_add]
    grind
   rw [e,Int.add_mul_ediv_right _ _ (by omega),Int.ediv_eq_zero_of_lt (by omega) (by omega)]
   omega
 cases n <;> cases m <;> simp only [sgn,Bool.false_eq_true,if_true,if_false,bne_self_eq_false,Bool.false_and,Bool.true_bne,Bool.false_bne,Bool.not_false,Bool.true_and]
 ·exact fdiv_nat N M
 ·rw [show (N:Int).fdiv (-(M:Int))=(-(N:Int)).fdiv (M:Int) by rw [← Int.neg_fdiv_neg,Int.neg_neg]]
  exact key _ rfl
 ·exact key _ rfl
 ·rw [Int.neg_fdiv_neg];exact fdiv_nat N M
theorem WI.div_some (x y:WI) (hx:x.ov=false) (hy:y.ov=false) (h:y.sz≠0) :
  x.div y=(WI.of (sgn (x.ng != y.ng) (if (x.ng != y.ng)&&decide (x.sz%y.sz≠0) then x.sz/y.sz+1 else x.sz/y.sz)),0):=by
 unfold WI.div;rw [WI.some_of_ov hx,WI.some_of_ov hy]
 have h0:¬ sgn y.ng y.sz=0:=by unfold sgn;split <;> omega
 simp only [h0,if_false]
 rw [sgn_fdiv _ _ _ _ h]
end Go.Proofs.YtechbdnhalmobaaGreatDoor
