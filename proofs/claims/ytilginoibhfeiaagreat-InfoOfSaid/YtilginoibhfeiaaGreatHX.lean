/- Laws and walks that the claim names. -/
import Derived.Test.YtilginoibhfeiaaGreatBN
import Derived.Test.YtilginoibhfeiaaGreatBW
import Derived.Laws.Bits64b
set_option maxRecDepth 100000
set_option maxHeartbeats 16000000
namespace Go.Proofs.YtilginoibhfeiaaGreat
def hxd (d:Nat):UInt8:=if d<10 then UInt8.ofNat (48+d) else UInt8.ofNat (87+d)
def hx (n:Nat):List UInt8:=if _h:n=0 then [] else hx (n/16) ++ [hxd (n%16)]
termination_by n
decreasing_by omega
theorem hx_zero:hx 0 = []:=by rw [hx];simp
theorem hx_pos {n:Nat} (h:n≠0):hx n=hx (n/16) ++ [hxd (n%16)]:=by rw [hx];simp [h]
theorem hx_nil {n:Nat} : hx n = []↔n=0:=by
 constructor
 ·intro h
  rcases Nat.eq_zero_or_pos n with h0|h0
  ·exact h0
  ·rw [hx_pos (by omega)] at h;simp at h
 ·rintro rfl;exact hx_zero
def hex (n:Nat):List UInt8:=if n=0 then [48] else hx n
def txt:Option Int→List UInt8
 | none=>[111,118,101,114]
 | some z=>if z<0 then 45 :: hex z.natAbs else hex z.natAbs
theorem nib (N j:Nat):wdn N (j/16)/2^(4*(j%16))%16=N/16^j%16:=by
 unfold wdn
 have e:(16:Nat)^j=2^(64*(j/16))*2^(4*(j%16)):=by
  rw [← Nat.pow_add,show (16:Nat)=2^4 from rfl,← Nat.pow_mul];congr 1;omega
 rw [e,← Nat.div_div_eq_div_mul]
 generalize N/2^(64*(j/16))=q
 obtain ⟨r,hr⟩:∃ r,r=j%16:=⟨_,rfl⟩
 have hlt:r<16:=by omega
 rw [← hr]
 have h2:(2:Nat)^64=2^(4*r)*(16*2^(4*(15-r))):=by
  rw [show (16:Nat)*2^(4*(15-r))=2^(4+4*(15-r)) by rw [Nat.pow_add],← Nat.pow_add];congr 1;omega
 rw [h2,Nat.mod_mul_right_div_self,Nat.mod_mul_right_mod]
theorem hx_len:∀ k n:Nat,n<16^k→(hx n).length≤k:=by
 intro k
 induction k with
 | zero => intro n h; have : n = 0 := by simpa using h
           rw [this,hx_zero];simp
 | succ k ih =>
  intro n h
  rcases Nat.eq_zero_or_pos n with h0|h0
  ·rw [h0,hx_zero];simp
  ·rw [hx_pos (by omega),List.length_append]
   have:=ih (n/16) (by rw [Nat.div_lt_iff_lt_mul (by decide),← Nat.pow_succ];exact h)
   simp;omega
theorem hx_step (N j:Nat):N/16^(j+1)=N/16^j/16:=by rw [Nat.pow_succ,Nat.div_div_eq_div_mul]
theorem hx_more (N j:Nat) (h:N/16^(j+1)≠0∨N/16^j%16≠0):hx (N/16^j)=hx (N/16^(j+1)) ++ [hxd (N/16^j%16)]:=by
 rw [hx_step] at h ⊢
 exact hx_pos (by omega)
theorem hx_less (N j:Nat) (h:N/16^(j+1)=0) (h':N/16^j%16=0):hx (N/16^j) = []:=by
 rw [hx_step] at h
 rw [show N/16^j=0 by omega,hx_zero]
theorem hex_last (N:Nat):hex N=hx (N/16) ++ [hxd (N%16)]:=by
 unfold hex
 by_cases h:N=0
 ·subst h;rw [if_pos rfl];simp [hx_zero,hxd]
 ·rw [if_neg h,← hx_pos h]
theorem text_none (N j:Nat) (h:N/16^(j+1)=0) (h':N/16^j%16=0) (h0:j≠0) : []=(if j=0 then hex N else hx (N/16^j)):=by
 rw [if_neg h0,hx_less N j h h']
theorem text_more (N j d:Nat) (hd:N/16^j%16=d) (h:N/16^(j+1)≠0∨d≠0∨j=0):hx (N/16^(j+1)) ++ [hxd d]=(if j=0 then hex N else hx (N/16^j)):=by
 subst hd
 by_cases h0:j=0
 ·subst h0;rw [if_pos rfl,hex_last];simp
 ·rw [if_neg h0];exact (hx_more N j (by omega)).symm
theorem and_15 (a:Nat):a &&& 15=a%16:=Nat.and_two_pow_sub_one_eq_mod a 4
open Go.RowKit
def str (l:List UInt8):Value := .string ⟨l.toArray⟩
theorem bytes_toList (l:List UInt8):(ByteArray.mk l.toArray).toList=l:=by
 rw [ByteArray.toList_eq]
@[go_sem] theorem eqg_str {P : Program} (op : BinOp) (t : TypeId) (x y : Operand) (l : List UInt8) (b : ByteArray) (w : World) : (eqGuard op t x y (str l) (.string b)).run P w = .ok () w := by
  unfold eqGuard str;cases op <;> simp
@[go_sem] theorem neq_str {P : Program} (t : TypeId) (l : List UInt8) (w : World) : (binOp .neq t (str l) (.string ⟨#[]⟩)).run P w = .ok (.bool (!l.isEmpty)) w := by
  have h:(ByteArray.mk #[]).toList = []:=bytes_toList []
  simp only [binOp,str,Op.stringOp,bytes_toList,h,Sem.run_pure]
  cases l <;> rfl
theorem str_append (l m:List UInt8):ByteArray.mk l.toArray++ByteArray.mk m.toArray=ByteArray.mk (l++m).toArray:=by
 apply ByteArray.ext;simp
@[go_sem] theorem add_str {P : Program} (t : TypeId) (l m : List UInt8) (w : World) (h : l.length + m.length < 9223372036854775808) : (binOp .add t (str l) (str m)).run P w = .ok (str (l ++ m)) w := by
  have hs:∀ l:List UInt8,(ByteArray.mk l.toArray).size=l.length:=fun l=>by simp [ByteArray.size]
  have hn:¬ (((l.length+m.length:Nat):Int) > IntKind.i64.max):=by have:IntKind.i64.max=9223372036854775807:=rfl;omega
  simp only [binOp,str,Op.stringOp,hs,if_neg hn,Sem.run_pure,str_append]
@[go_sem] theorem minus_str {P : Program} (t : TypeId) (l : List UInt8) (w : World) (h : l.length + 1 < 9223372036854775808) : (binOp .add t (.string ⟨#[45]⟩) (str l)).run P w = .ok (str (45 :: l)) w :=
  add_str t [45] l w (by simp;omega)
@[go_sem ↓] theorem slice_dg (d : Nat) (hd : d < 16) (w : World) :
    (Instr.slice 9 (.string ⟨#[48,49,50,51,52,53,54,55,56,57,97,98,99,100,101,102]⟩) (some (.int .u64 (d:Int))) (some (.int .u64 ((d:Int)+1))) none).run Tryz.prog w = .ok (str [hxd d]) w:=by
 have key:∀ d:Nat,d<16→(ByteArray.mk #[48,49,50,51,52,53,54,55,56,57,97,98,99,100,101,102]).extract d (d+1)=⟨[hxd d].toArray⟩:=by decide
 have:=key d hd
 rw [run_slice_string _ _ _ _ _ _ _ Tryz.underlying9 (by omega) (by omega) (by show (d:Int)+1≤16;omega)]
 rw [show ((d:Int)+1).toNat=d+1 by omega,Int.toNat_natCast,this]
 rfl
@[go_sem] theorem slice_d0 (l : List UInt8) (hl : l.length < 1000000) (t : TypeId) (w : World) : (binOp .add t (str l) (.string ((ByteArray.mk #[48, 49, 50, 51, 52, 53, 54, 55, 56, 57, 97, 98, 99, 100, 101, 102]).extract 0 1))).run Tryz.prog w = .ok (str (l ++ [48])) w :=
  add_str t l [48] w (by simp;omega)
theorem text_rel (N j:Nat) (l:List UInt8) (h:l=if j=0 then hex N else hx (N/16^j)):str l=str (if (j:Int)-1 = -1 then hex N else hx (N/16^((j:Int)-1+1).toNat)):=by
 subst h
 by_cases h0:j=0
 ·subst h0;rfl
 ·rw [if_neg h0,if_neg (by omega),show ((j:Int)-1+1).toNat=j by omega]
theorem text_nib (N j:Nat):bits BinOp.and IntKind.u64 (↑(wdn N (j/16))/2^(4*j%64)) 15=((N/16^j%16:Nat):Int):=by
 have e:((wdn N (j/16):Nat):Int)/2^(4*j%64)=((wdn N (j/16)/2^(4*(j%16)):Nat):Int):=by
  rw [show 4*j%64=4*(j%16) by omega,Int.natCast_ediv,Int.natCast_pow];rfl
 have h1:=wdn_lt N (j/16)
 have h2:=Nat.div_le_self (wdn N (j/16)) (2^(4*(j%16)))
 rw [e,show (15:Int)=((15:Nat):Int) from rfl,bits_and_u64_nat _ _ (by omega) (by decide),and_15,nib]
theorem lt_16 {N:Nat} (n k:Nat) (hn:n=16*k) (hk:k=16) (h:N<W16):N<16^n:=by
 have:=W16_lt h hk
 rwa [hn,show (16:Nat)^(16*k)=2^(64*k) by rw [show (16:Nat)=2^4 from rfl,← Nat.pow_mul];congr 1;omega]
theorem WI.txt_eq (x:WI) (h:x.ov=false):txt x.v=if x.ng then 45 :: hex x.sz else hex x.sz:=by
 unfold WI.ov at h;unfold WI.ng WI.sz
 cases hv:x.v with
 | none=>rw [hv] at h;cases h
 | some z=>simp [txt]
theorem text_some (x:WI) (ho:x.ov=false) (w:World) :
  Calls Tryz.prog 94 #[.agg x.cells] w fun e w'=>e = .returned (str (txt x.v))∧Below w.heap.size w w':=by
 have Q0:=Lib.hid (Blk.new w x.cells 58)
 have HB:=Lib.hid ((Below.refl w.heap.size w).alloc (Nat.le_refl _) (.cells x.cells 58))
 have HN:=Lib.hid (lt_16 256 16 rfl rfl x.sz_lt')
 have HX:=fun k=>hx_len 256 (x.sz/16^k) (Nat.lt_of_le_of_lt (Nat.div_le_self _ _) HN.out)
 go_enter Tryz.func94,Tryz.ntmps94
 go_wp2
 go_loopw [3,4] (fun o i wr=>∃ k:Int,-1≤k∧k≤255∧i = .int .i64 (4*k)∧o=str (if k = -1 then hex x.sz else hx (x.sz/16^(k+1).toNat))∧Hid (Below w.heap.size w wr)∧Hid (Blk wr w.heap.size x.cells 58)) (fun _ i _=>(intOf i+4).toNat)
 case atStart =>
  refine ⟨255,by omega,by omega,rfl,?_,HB,Q0⟩
  rw [if_neg (by decide)]
  have:x.sz/16^((255:Int)+1).toNat=0:=hx_nil.1 (List.length_eq_zero_iff.1 (Nat.le_zero.1 (hx_len 0 _ (by rw [show ((255:Int)+1).toNat=256 from rfl,(Nat.div_eq_zero_iff_lt (Nat.pow_pos (by decide))).2 HN.out];decide))))
  rw [this,hx_zero];rfl
 case round =>
  obtain ⟨k,hk0,hk,rfl,rfl,hb,q0⟩:=hrel
  by_cases h0:0≤k
  ·obtain ⟨j,rfl⟩:=Int.eq_ofNat_of_zero_le h0
   have e3:wr.cell? ⟨w.heap.size,2+4*j/64,none⟩=some (.int .u64 ((wdn x.sz (j/16):Nat):Int)):=by rw [show 4*j/64=j/16 by omega];exact q0.out.cell (x.cells_word (j/16) (by omega))
   have h4:4*(j:Int)/64<16:=by omega
   have hd:=text_nib x.sz j
   have hd0:x.sz/16^j%16<16:=Nat.mod_lt _ (by decide)
   have hnone:=text_none x.sz j
   have hmore:=text_more x.sz j _ rfl
   have hlen:=HX (j+1)
   have hlen':(hx (x.sz/16^(j+1))).length+1<9223372036854775808:=by omega
   generalize hD:x.sz/16^j%16=d at hd hd0 hnone hmore
   rw [show ((j:Int)+1).toNat=j+1 by omega,if_neg (show ¬ (j:Int) = -1 by omega)]
   have fin : ∀ (i i' : Int) l, i = 4 * (j : Int) - 4 → i' = 4 * (j : Int) → l = (if j = 0 then hex x.sz else hx (x.sz / 16 ^ j)) → (∃ k : Int, -1 ≤ k ∧ k ≤ 255 ∧ Value.int IntKind.i64 i = .int .i64 (4 * k) ∧ str l = str (if k = -1 then hex x.sz else hx (x.sz / 16 ^ (k + 1).toNat)) ∧ Hid (Below w.heap.size w wr) ∧ Hid (Blk wr w.heap.size x.cells 58)) ∧
       (intOf (Value.int IntKind.i64 i)+4).toNat<(intOf (Value.int IntKind.i64 i')+4).toNat:=fun i i' l hi hi' hl =>
    ⟨⟨(j:Int)-1,by omega,by omega,by congr 1;omega,text_rel _ _ _ hl,hb,q0⟩,by simp [intOf] <;> omega⟩
   replace hmore:=Lib.hid hmore
   replace hnone:=Lib.hid hnone
   have FIN:=Lib.hid fin
   clear fin
   by_cases hj:j=0
   ·subst hj
    rw [show (4*(((0:Nat)):Int))=0 from rfl] at *
    have e3:wr.cell? ⟨w.heap.size,2,none⟩=some (.int .u64 ((wdn x.sz 0:Nat):Int)):=e3
    have hd:bits BinOp.and IntKind.u64 ((wdn x.sz 0:Nat):Int) 15=(d:Int):=by rw [← hd];congr 1;simp
    by_cases hq:x.sz/16^(0+1)=0
    ·rw [hq,hx_zero] at hmore hlen hlen' ⊢
     by_cases hd1:d=0
     ·subst hd1
      go_wp2_with fail
      exact FIN.out _ _ _ rfl rfl (hmore.out (.inr (.inr rfl)))
     ·have hd2:(0:Int)<d:=by omega
      go_wp2_with fail
      exact FIN.out _ _ _ rfl rfl (hmore.out (.inr (.inl hd1)))
    ·have hne:(hx (x.sz/16^(0+1))).isEmpty=false:=by rw [List.isEmpty_eq_false_iff];exact fun h=>hq (hx_nil.1 h)
     replace hq:=Lib.hid hq
     generalize hx (x.sz/16^(0+1))=L at *
     go_wp2_with fail
     exact FIN.out _ _ _ rfl rfl (hmore.out (.inl hq.out))
   ·by_cases hq:x.sz/16^(j+1)=0
    ·rw [hq,hx_zero] at hmore hlen hlen' ⊢
     by_cases hd1:d=0
     ·subst hd1
      have hj':¬ (j:Int)=0:=by omega
      replace hj:=Lib.hid hj
      replace hq:=Lib.hid hq
      go_wp2_with fail
      exact FIN.out _ _ _ rfl rfl (hnone.out hq.out rfl hj.out)
     ·have hd2:(0:Int)<d:=by omega
      replace hj:=Lib.hid hj
      replace hq:=Lib.hid hq
      replace hd1:=Lib.hid hd1
      go_wp2_with fail
      exact FIN.out _ _ _ rfl rfl (hmore.out (.inr (.inl hd1.out)))
    ·have hne:(hx (x.sz/16^(j+1))).isEmpty=false:=by rw [List.isEmpty_eq_false_iff];exact fun h=>hq (hx_nil.1 h)
     replace hj:=Lib.hid hj
     replace hq:=Lib.hid hq
     go_wp2_with fail
     exact FIN.out _ _ _ rfl rfl (hmore.out (.inl hq.out))
  ·have hk:k = -1:=by omega
   subst hk
   rw [if_pos rfl]
   have hlen:=HX 0
   have e0:wr.cell? ⟨w.heap.size,0,none⟩=some (.bool x.ng):=q0.out.cell x.cells_0
   have hlen':(hex x.sz).length+1<9223372036854775808:=by
    unfold hex;split
    ·simp
    ·simp at hlen;omega
   cases hn:x.ng with
   | true =>
    rw [hn] at e0
    have HT:Hid (txt x.v=45 :: hex x.sz):=by rw [x.txt_eq ho,hn];rfl
    go_wp2
    go_ret
    exact ⟨by rw [HT.out];rfl,below_by⟩
   | false =>
    rw [hn] at e0
    have HT:Hid (txt x.v=hex x.sz):=by rw [x.txt_eq ho,hn];rfl
    go_wp2
    go_ret
    exact ⟨by rw [HT.out];rfl,below_by⟩
theorem text_I (x:WI) (w:World) :
  Calls Tryz.prog 94 #[.agg x.cells] w fun e w'=>e = .returned (str (txt x.v))∧Below w.heap.size w w':=by
 cases ho:x.ov with
 | false=>exact text_some x ho w
 | true =>
  have e:Hid (x.v=none):=by unfold WI.ov at ho;exact Option.isNone_iff_eq_none.1 ho
  go_enter Tryz.func94,Tryz.ntmps94
  go_wp2
  go_ret
  exact ⟨by rw [e.out];rfl,below_by⟩
end Go.Proofs.YtilginoibhfeiaaGreat
