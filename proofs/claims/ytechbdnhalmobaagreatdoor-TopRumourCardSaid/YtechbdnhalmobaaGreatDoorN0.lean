/- Laws and walks that the claim names. -/
namespace Go.Proofs.YtechbdnhalmobaaGreatDoor
set_option linter.unusedSimpArgs false
set_option linter.unusedVariables false
def bitS (n:Nat):Nat:=if n%2=1 then (n/2) ^^^ 3988292384 else n/2
def bitN:Nat→Nat→Nat
 | 0,n=>n
 | k+1,n=>bitS (bitN k n)
def ent (i:Nat):Nat:=bitN 8 i
def stp (s c:Nat):Nat:=ent (s%256 ^^^ c) ^^^ (s/256)
def crcF (s:Nat) (l:List Nat):Nat:=l.foldl stp s
def crc (l:List Nat):Nat:=4294967295-crcF 4294967295 l
def Byt (l:List Nat):Prop:=∀ c ∈ l,c<256
theorem bitS_lt {n:Nat} (h:n<4294967296):bitS n<4294967296:=by
 unfold bitS
 split
 ·exact Nat.xor_lt_two_pow (n:=32) (by omega) (by omega)
 ·omega
theorem bitN_lt (k:Nat) {n:Nat} (h:n<4294967296):bitN k n<4294967296:=by
 induction k with
 | zero=>exact h
 | succ k ih=>exact bitS_lt ih
theorem bitS_xor (x y:Nat):bitS (x ^^^ 2*y)=bitS x ^^^ y:=by
 have h1:(x ^^^ 2*y)%2=x%2:=by
  have:=@Nat.xor_mod_two_pow x (2*y) 1
  simp at this;simpa using this
 have h2:(x ^^^ 2*y)/2=x/2 ^^^ y:=by
  have:=@Nat.xor_div_two_pow x (2*y) 1
  simp at this;simpa using this
 unfold bitS
 rw [h1,h2]
 split
 ·rw [Nat.xor_assoc,Nat.xor_assoc,Nat.xor_comm y]
 ·rfl
theorem bitN_xor (k:Nat):∀ x y:Nat,bitN k (x ^^^ 2^k*y)=bitN k x ^^^ y:=by
 induction k with
 | zero=>intro x y;simp [bitN]
 | succ k ih =>
  intro x y
  show bitS (bitN k _)=bitS (bitN k x) ^^^ y
  rw [show 2^(k+1)*y=2^k*(2*y) by rw [Nat.pow_succ,Nat.mul_assoc],ih,bitS_xor]
theorem split8 (s:Nat):s%256 ^^^ 256*(s/256)=s:=by
 have:=Nat.two_pow_add_eq_or_of_lt (i:=8) (b:=s%256) (Nat.mod_lt _ (by decide)) (s/256)
 have h2:s%256 ^^^ 256*(s/256)=(256*(s/256)) ||| s%256:=by
  apply Nat.eq_of_testBit_eq
  intro i
  rw [Nat.testBit_xor,Nat.testBit_or]
  by_cases h:i<8
  ·rw [show 256=2^8 from rfl,Nat.testBit_two_pow_mul]
   simp [show ¬ 8≤i by omega]
  ·rw [show s%256=s%2^8 from rfl,Nat.testBit_mod_two_pow]
   simp [h]
 rw [h2]
 have e:256*(s/256) ||| s%256=2^8*(s/256)+s%256:=this.symm
 rw [e];omega
theorem stp_eq {s c:Nat} : stp s c=bitN 8 (s ^^^ c):=by
 unfold stp ent
 rw [← bitN_xor 8]
 congr 1
 rw [Nat.xor_assoc,Nat.xor_comm c,← Nat.xor_assoc,split8]
theorem stp_lt {s c:Nat} (hs:s<4294967296) (hc:c<256):stp s c<4294967296:=by
 rw [stp_eq];exact bitN_lt 8 (Nat.xor_lt_two_pow (n:=32) hs (by omega))
theorem crcF_lt {l:List Nat} (hl:Byt l):∀ {s:Nat},s<4294967296→crcF s l<4294967296:=by
 induction l with
 | nil=>intro s h;exact h
 | cons c l ih=>intro s h;exact ih (fun d hd=>hl d (List.mem_cons_of_mem _ hd)) (stp_lt h (hl c List.mem_cons_self))
theorem crc_lt (l:List Nat):crc l<4294967296:=by unfold crc;omega
def be:Nat→Int→List Nat
 | 0,_=>[]
 | w+1,n=>((n/((256^w:Nat):Int))%256).toNat :: be w n
def nb (l:List Nat):Nat:=l.foldl (fun n c=>n*256+c) 0
theorem be_length (w:Nat) (n:Int):(be w n).length=w:=by
 induction w with
 | zero=>rfl
 | succ w ih=>simp [be,ih]
theorem nb_from (l:List Nat):∀ k:Nat,l.foldl (fun n c=>n*256+c) k=k*256^l.length+nb l:=by
 induction l with
 | nil=>intro k;simp [nb]
 | cons c l ih =>
  intro k
  rw [nb,List.foldl_cons,List.foldl_cons,ih,ih,List.length_cons,Nat.pow_succ,Nat.zero_mul,Nat.zero_add,Nat.add_mul,Nat.mul_assoc,Nat.mul_comm 256,Nat.add_assoc]
theorem nb_cons (c:Nat) (l:List Nat):nb (c :: l)=c*256^l.length+nb l:=by
 rw [nb,List.foldl_cons,nb_from];simp
end Go.Proofs.YtechbdnhalmobaaGreatDoor
