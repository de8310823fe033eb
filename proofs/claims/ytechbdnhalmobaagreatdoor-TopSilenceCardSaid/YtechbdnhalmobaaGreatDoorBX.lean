/- Walks. -/
import Derived.Test.YtechbdnhalmobaaGreatDoorBW
import Derived.Laws.Bits64b
import Derived.Deep.CutBlock
import Derived.Lib.QuietBelow
import Derived.BigRegion
import Derived.Laws.CopyOwn
open Go.Proofs.Tryz
set_option maxRecDepth 100000
set_option maxHeartbeats 16000000
namespace Go.Proofs.YtechbdnhalmobaaGreatDoor
set_option linter.unusedSimpArgs false
set_option linter.unusedVariables false
open Go.RowKit
theorem fI(x r:Nat):IntKind.u64.wrap ((x:Int)*2^r)=((x*2^r%18446744073709551616:Nat):Int):=by
 have e:((x*2^r:Nat):Int)=(x:Int)*2^r:=by rw[Int.natCast_mul,Int.natCast_pow];rfl
 rw[IntKind.wrap_u64,<-e];omega
theorem rF{w:World}{b n M i v:Nat}{t:TypeId}(h:Blk w b (rowW n (M/2^(64*(i+1))*2^(64*(i+1)))) t)(a:v=wdn M i):Blk (w.setCell ⟨b,i,none⟩ (.int .u64 (v:Int))) b (rowW n (M/2^(64*i)*2^(64*i))) t:=by
 subst a;rw[<-nI,<-cp _ _ _ _ (bB M i)];exact h.ab _ _
theorem wL{w:World}{b n M i v:Nat}{t:TypeId}{x:Value}(h:Blk w b (rowW n (M/2^(64*(i+1))*2^(64*(i+1)))) t)(a:v=wdn M i):Blk ((w.setCell ⟨b,i,none⟩ x).setCell ⟨b,i,none⟩ (.int .u64 (v:Int))) b (rowW n (M/2^(64*i)*2^(64*i))) t:=by
 subst a;rw[<-nI,<-cp _ _ _ _ (bB M i)];have:=(h.ab i x).ab i (.int .u64 (wdn M i:Int));exact this.of_eq (by apply Array.ext_getElem?;intro j;by_cases c:i=j<;>simp[c,Array.getElem?_setIfInBounds])
theorem xT(a c g:Nat)(x:Int)(f:x=(c:Int))(d:a<18446744073709551616)(b:c<18446744073709551616):bits .or .u64 (a:Int) (x/2^g)=((a|||(c/2^g):Nat):Int):=by
 have e:x/2^g=((c/2^g:Nat):Int):=by rw[f,Int.natCast_ediv,Int.natCast_pow];rfl
 rw[e,bits_or_u64_nat _ _ d (Nat.lt_of_le_of_lt (Nat.div_le_self _ _) b)]
theorem rE{w:World}{b n M f v:Nat}{t:TypeId}(h:Blk w b (rowW n (M%2^(64*f))) t)(a:v=wdn M f):Blk (w.setCell ⟨b,f,none⟩ (.int .u64 (v:Int))) b (rowW n (M%2^(64*(f+1)))) t:=by
 subst a;rw[<-gR];exact h.ab _ _
theorem wK{w:World}{b n M f v:Nat}{t:TypeId}{x:Value}(h:Blk w b (rowW n (M%2^(64*f))) t)(a:v=wdn M f):Blk ((w.setCell ⟨b,f,none⟩ x).setCell ⟨b,f,none⟩ (.int .u64 (v:Int))) b (rowW n (M%2^(64*(f+1)))) t:=by
 subst a;rw[<-gR];have:=(h.ab f x).ab f (.int .u64 (wd M f));exact this.of_eq (by apply Array.ext_getElem?;intro j;by_cases c:f=j<;>simp[c,Array.getElem?_setIfInBounds])
theorem dO(x:Nat):x%18446744073709551616<18446744073709551616:=by omega
theorem E9(b o N k:Nat)(w:World)(hk:k<1024)(C:dm w b o N):zR 266 #[.pointer (some ⟨b,o,none⟩),.int .i64 (k:Int)] w (.agg (rowW 16 (N*2^k))):=by
 obtain⟨d,r,hd,hr,n⟩:∃d r,d<16/\r<64/\k=64*d+r:=⟨k/64,k%64,by omega,by omega,by omega⟩;have x:=Lh n;have S:k/64=d:=by omega
 have Z:k%64=r:=by omega
 have O:(k:Int)/64=d:=by omega
 have Q:(k:Int)%64=r:=by omega
 have Y:(k:Int).tdiv 64=d:=by rw[Int.tdiv_eq_ediv_of_nonneg (by omega)];exact O
 have q2:(k:Int).tmod 64=r:=by rw[Int.tmod_eq_emod_of_nonneg (by omega)];exact Q
 clear n;go_enter func266,ntmps266;go_wp2
 go_loopw [6] (fun i wr=>∃j:Nat,d<=j/\j<=16/\i=.int .i64 ((j:Int)-1)/\zB w wr/\Blk wr (w.heap.size+1) (rowW 16 (N*2^k/2^(64*j)*2^(64*j))) 151/\Blk wr w.heap.size (rowW 16 0) 151) (fun i _=>(intOf i+1).toNat)
 case atStart=>
  refine⟨16,by omega,by omega,rfl,((Below.refl _ _).alloc (Nat.le_refl _) _).alloc (by simp) _,?_,?_⟩
  ·have:=mi 16 (N*2^k/2^(64*16)*2^(64*16));rw[Nat.mul_mod_left] at this;rw[<-this,cG];exact Blk.new' _ _ _ (by simp)
  ·rw[cG];exact(Blk.new _ _ _).alloc _
 case round=>
  obtain⟨j,R,hj,rfl,t,c,z⟩:=hrel;by_cases L:d<j
  ·obtain⟨i,rfl⟩:∃i,j=i+1:=⟨j-1,by omega⟩;have c1:wr.cell? ⟨b,o+(i-d),none⟩=some (.int .u64 (wd N (i-d))):=(C.below t (i-d) (by omega)).1;have c3:wr.cell? ⟨w.heap.size+1,i,none⟩=some (.int .u64 (wd (N*2^k/2^(64*(i+1))*2^(64*(i+1))) i)):=c.cell (cL _ _ _ (by omega));have c4:wr.frozen? ⟨w.heap.size+1,i,none⟩=false:=c.frozen i;have T:(d:Int)<=i:=by omega
   have V:(0:Int)<=(i:Int)-d:=by omega
   have i3:(i:Int)-d<16:=by omega
   have i4:(i:Int)<16:=by omega
   have i5:wrap64 ((i:Int)-d)=(i:Int)-d:=by unfold wrap64;omega
   have X:((i:Int)-d).toNat=i-d:=by omega
   have S:w.heap.size+1≠b:=by have:=C.lt;omega
   have l:=Lh t;have f:=Lh c;have h:=Lh z;clear t c z;have G:((i+1:Nat):Int)-1=(i:Int):=by omega
   rw[G];obtain⟨v,u⟩:∃v,v=wdn N (i-d)*2^r%18446744073709551616:=⟨_,rfl⟩;have s1:IntKind.u64.wrap (wd N (i-d)*2^r)=(v:Int):=by rw[u];exact fI _ _
   have D:=Lh (u ▸ dO (wdn N (i-d)*2^r));have E:=Lh u;clear u;by_cases q:r=0
   ·have A:¬0<r:=by omega
    have s:Hid (v=wdn (N*2^k) i):=by
     show _=_;rw[E.out,x.out,q,Nat.pow_zero,Nat.mul_one,Nat.add_zero,Nat.mod_eq_of_lt (bB _ _)];have:=jw N d (i-d);rw[show i-d+d=i by omega] at this;exact this.symm
    clear q;go_wp2
    refine⟨⟨i,by omega,by omega,rfl,?_,?_,?_⟩,(by first|(simp[intOf];done)|(simp[intOf];omega))⟩
    ·exact l.out.setCell (by simp) _
    ·exact rF f.out s.out
    ·exact h.out.ac (by simp) _
   ·have A:0<r:=by omega
    by_cases J:d<i
    ·obtain⟨m,P⟩:∃m,i=d+m+1:=⟨i-d-1,by omega⟩;obtain⟨g,K⟩:∃g,g+r=64:=⟨64-r,by omega⟩;have U:IntKind.i64.wrap (d:Int)=d:=by rw[IntKind.wrap_i64];omega
     have x1:IntKind.i64.wrap ((i:Int)-d)=(i:Int)-d:=by rw[IntKind.wrap_i64];omega
     have x2:IntKind.i64.wrap ((i:Int)-d-1)=(m:Int):=by rw[IntKind.wrap_i64];omega
     have x3:IntKind.i64.wrap (64-(r:Int))=(g:Int):=by rw[IntKind.wrap_i64];omega
     have x4:(0:Int)<=(m:Int):=by omega
     have W:(m:Int)<16:=by omega
     have x6:(0:Int)<=(g:Int):=by omega
     have x7:(g:Int)<64:=by omega
     have a:(d:Int)<i:=by omega
     have c5:wr.cell? ⟨b,o+m,none⟩=some (.int .u64 (wd N m)):=(C.below l.out m (by omega)).1;obtain⟨y,e⟩:∃y,y=v|||(wdn N m/2^g):=⟨_,rfl⟩
     have y1:bits .or .u64 (v:Int) (wd N m/2^g)=(y:Int):=by rw[e];exact xT _ _ _ _ rfl D.out (bB _ _)
     have s:Hid (y=wdn (N*2^k) i):=by
      show _=_;have c:=uX N r m (by omega);have H:=jw (N*2^r) d (m+1);rw[e,E.out,x.out,show i-d=m+1 by omega,show g=64-r by omega,c,<-H,Nat.mul_assoc,<-Nat.pow_add];congr 1
      ·congr 2;omega
      ·omega
     clear P K e;go_wp2
     refine dv 18 (by kernel_rfl) (by kernel_rfl) ?_;simp only[List.take_succ_cons,List.take_zero,List.drop_succ_cons,List.drop_zero];(repeat still_step);(try refine wpStill_nil ?_);go_wp2
     refine⟨⟨i,by omega,by omega,rfl,?_,?_,?_⟩,(by first|(simp[intOf];done)|(simp[intOf];omega))⟩
     ·exact((l.out.setCell (by simp) _).setCell (by simp) _).drew
     ·exact(wL f.out s.out).drew
     ·exact((h.out.ac (by simp) _).ac (by simp) _).drew
    ·have a:d=i:=by omega
     have M:¬(d:Int)<i:=by omega
     have s:Hid (v=wdn (N*2^k) i):=by
      show _=_;rw[E.out,x.out,a,Nat.add_comm,Nat.pow_add,<-Nat.mul_assoc,Nat.sub_self,<-zW];have:=jw (N*2^r) i 0;rw[Nat.zero_add] at this;exact this.symm
     clear a;go_wp2
     refine⟨⟨i,by omega,by omega,rfl,?_,?_,?_⟩,(by first|(simp[intOf];done)|(simp[intOf];omega))⟩
     ·exact l.out.setCell (by simp) _
     ·exact rF f.out s.out
     ·exact h.out.ac (by simp) _
  ·have B:j=d:=by omega
   subst B
   have F:N*2^k/2^(64*j)*2^(64*j)=N*2^k:=by
    rw[x.out,Nat.pow_add,Nat.mul_left_comm,Nat.mul_div_cancel_left _ (Nat.two_pow_pos _),Nat.mul_comm]
   rw[F] at c;have T:¬(j:Int)<=(j:Int)-1:=by omega
   have l:=Lh t;have I:=Lh (Blk.ee z (rowW 16 (N*2^k)));clear t F;go_wp2_with (first|(refine wpList_load_row rfl 151 _ rfl _ rfl 151 _ (0,0) _ c underlying151 rfl (by rw[aD];exact aO) ?_)|(refine wpList_store_row rfl 151 _ _ rfl _ _ rfl rfl 151 _ z (by rw[aD];exact aO) (by rw[aD,aD]) (bN _ _) ?_))
   exact bodyPost_ret (v:=.agg (rowW 16 (N*2^k))) (by exact ke (p:=4) (ty:=151) rfl _ _ _ _ _ _ rfl I.out underlying151 rfl (by rw[aD];exact aO)) rfl ⟨rfl,cJ l.out (by omega) _⟩
theorem oS(x r:Nat)(y:Int)(a:y=(x:Int)):y/2^r=((x/2^r:Nat):Int):=by
 rw[a,Int.natCast_ediv,Int.natCast_pow];rfl
theorem Ba(a c g:Nat)(x:Int)(d:x=(c:Int))(b:a<18446744073709551616):bits .or .u64 (a:Int) (IntKind.u64.wrap (x*2^g))=((a|||(c*2^g%18446744073709551616):Nat):Int):=by
 rw[d,fI,bits_or_u64_nat _ _ b (dO _)]
def lost(N k:Nat):Bool:=decide (N%2^k≠0)
def left?(N m:Nat):Bool:=decide (N%2^(64*m)≠0)
theorem vS(N m:Nat):left? N (m+1)=(left? N m||(wd N m != 0)):=by
 unfold left?;have h:(wd N m != 0)=decide (wdn N m≠0):=by unfold wd;by_cases h:wdn N m=0<;>simp[h]
 rw[h,Bool.eq_iff_iff];simp only[decide_eq_true_eq,Bool.or_eq_true];exact xC N m
theorem yN(b o N k:Nat)(w:World)(hN:N<W16)(hk:k<=1024)(D:dm w b o N):zR 268 #[.pointer (some ⟨b,o,none⟩),.int .i64 (k:Int)] w (.tuple #[.agg (rowW 16 (N/2^k)),.bool (lost N k)]):=by
 obtain⟨d,r,hd,hr,K⟩:∃d r,d<=16/\r<64/\k=64*d+r:=⟨k/64,k%64,by omega,by omega,by omega⟩;have F:=Lh K;have V:=Lh hN;have n1:k/64=d:=by omega
 have n2:k%64=r:=by omega
 have q3:(k:Int)/64=d:=by omega
 have q4:(k:Int)%64=r:=by omega
 have q1:(k:Int).tdiv 64=d:=by rw[Int.tdiv_eq_ediv_of_nonneg (by omega)];exact q3
 have q2:(k:Int).tmod 64=r:=by rw[Int.tmod_eq_emod_of_nonneg (by omega)];exact q4
 have q5:min (d:Int) 16=d:=by omega
 have q6:(d:Int)<=16:=by omega
 clear K hN;go_enter func268,ntmps268;go_wp2
 go_loopw [7,13] (fun s i wr=>∃m:Nat,m<=d/\i=.int .i64 (m:Int)/\s=.bool (left? N m)/\wr=((w.alloc (.cells (rowW 16 0) 151)).alloc (.cells (rowW 16 0) 151))) (fun _ i _=>(16-intOf i).toNat)
 case atStart=>exact⟨0,by omega,rfl,by simp[left?,Nat.mod_one],rfl⟩
 case round=>
  obtain⟨m,hm,rfl,rfl,rfl⟩:=hrel;by_cases J:m<d
  ·have c1:=(D m (by omega)).1;have Z:=D.lt;have i1:(m:Int)<d:=by omega
   have i2:(m:Int)<16:=by omega
   have Y:=vS N m;generalize left? N m=t at Y ⊢;have HS:=Lh Y;clear Y;cases t with
   | true=>
    go_wp2
    exact⟨⟨m+1,by omega,by go_num,by rw[HS.out];rfl,trivial⟩,(by first|(simp[intOf];done)|(simp[intOf];omega))⟩
   | false=>
    go_wp2
    exact⟨⟨m+1,by omega,by go_num,by rw[HS.out];rfl,trivial⟩,(by first|(simp[intOf];done)|(simp[intOf];omega))⟩
  ·have R:m=d:=by omega
   subst R;have i1:¬(m:Int)<m:=by omega
   have Z:=D.lt;go_wp2
   go_loopw [9] (fun i wr=>∃e:Nat,m<=e/\e<=16/\i=.int .i64 (e:Int)/\zB w wr/\Blk wr (w.heap.size+1) (rowW 16 (N/2^k%2^(64*(e-m)))) 151/\Blk wr w.heap.size (rowW 16 0) 151) (fun i _=>(16-intOf i).toNat)
   case atStart=>
    refine⟨m,by omega,by omega,rfl,((Below.refl _ _).alloc (Nat.le_refl _) _).alloc (by simp) _,?_,(Blk.new _ _ _).alloc _⟩;rw[Nat.sub_self,show N/2^k%2^(64*0)=0 by simp[Nat.mod_one]];exact Blk.new' _ _ _ (by simp)
   case round=>
    obtain⟨i,a1,hi,rfl,I,x,n⟩:=hrel;by_cases J:i<16
    ·obtain⟨f,hf⟩:∃f,f+m=i:=⟨i-m,by omega⟩;have c1:wr.cell? ⟨b,o+i,none⟩=some (.int .u64 (wd N i)):=(D.below I i (by omega)).1;have c3:wr.cell? ⟨w.heap.size+1,f,none⟩=some (.int .u64 (wd (N/2^k%2^(64*(i-m))) f)):=x.cell (cL _ _ _ (by omega));have c4:wr.frozen? ⟨w.heap.size+1,f,none⟩=false:=x.frozen f;have i1:(i:Int)<16:=by omega
     have i2:(i:Int)-m=f:=by omega
     have i3:(f:Int)<16:=by omega
     have i4:(0:Int)<=(f:Int):=by omega
     have i5:wrap64 ((i:Int)-m)=f:=by unfold wrap64;omega
     have i6:(0:Int)<=(i:Int):=by omega
     have x0:IntKind.i64.wrap ((i:Int)-m)=f:=by rw[IntKind.wrap_i64];omega
     have n1:w.heap.size+1≠b:=by omega
     obtain⟨v,y⟩:∃v,v=wdn N i/2^r:=⟨_,rfl⟩;have s1:wd N i/2^r=(v:Int):=by rw[y];exact oS _ _ _ rfl
     have W:Hid (v<18446744073709551616):=by show v<_;rw[y];exact Nat.lt_of_le_of_lt (Nat.div_le_self _ _) (bB _ _)
     have T:=Lh y
     have HX:Hid (wdn (N/2^k) f=wdn N i/2^r+wdn N (i+1)*2^(64-r)%18446744073709551616):=by
      show _=_;rw[F.out,Nat.pow_add,<-Nat.div_div_eq_div_mul,pY _ r f (by omega),iO,iO,show f+m=i by omega,show f+1+m=i+1 by omega]
     have HO:Hid ((wdn N i/2^r)|||(wdn N (i+1)*2^(64-r)%18446744073709551616)=wdn (N/2^k) f):=by
      show _=_;rw[F.out,Nat.pow_add,<-Nat.div_div_eq_div_mul,<-pX _ r f (by omega),iO,iO,show f+m=i by omega,show f+1+m=i+1 by omega]
     have q:=Lh I;have C:=Lh x;have A:=Lh n;have l:=Lh hf;clear I x n y hf;by_cases j:r=0
     ·have X:¬0<r:=by omega
      have G:Hid (v=wdn (N/2^k) f):=by
       show _=_;rw[T.out,HX.out,j,Nat.mul_mod_left,Nat.add_zero]
      clear j;go_wp2
      refine⟨⟨i+1,by omega,by omega,by go_num,q.out.setCell (by simp) _,?_,A.out.ac (by simp) _⟩,(by first|(simp[intOf];done)|(simp[intOf];omega))⟩;have O:=l.out;have E:i-m=f:=by omega
      have L:i+1-m=f+1:=by omega
      have z:=C.out;rw[E] at z;rw[L];exact rE z G.out
     ·have X:0<r:=by omega
      clear j;by_cases a0:i+1<16
      ·have c5:wr.cell? ⟨b,o+(i+1),none⟩=some (.int .u64 (wd N (i+1))):=(D.below q.out (i+1) (by omega)).1;obtain⟨g,U⟩:∃g,g+r=64:=⟨64-r,by omega⟩;have j1:(i:Int)+1<16:=by omega
       have j2:(0:Int)<=(i:Int)+1:=by omega
       have x1:IntKind.i64.wrap ((i:Int)+1)=(i:Int)+1:=by rw[IntKind.wrap_i64];omega
       have x3:IntKind.i64.wrap (64-(r:Int))=(g:Int):=by rw[IntKind.wrap_i64];omega
       have x4:IntKind.i64.wrap (m:Int)=(m:Int):=by rw[IntKind.wrap_i64];omega
       have x5:IntKind.i64.wrap (f:Int)=(f:Int):=by rw[IntKind.wrap_i64];omega
       have x6:(0:Int)<=(g:Int):=by omega
       have x7:(g:Int)<64:=by omega
       obtain⟨Q,B⟩:∃Q,Q=v|||(wdn N (i+1)*2^g%18446744073709551616):=⟨_,rfl⟩
       have y1:bits .or .u64 (v:Int) (IntKind.u64.wrap (wd N (i+1)*2^g))=(Q:Int):=by rw[B];exact Ba _ _ _ _ rfl W.out
       have G:Hid (Q=wdn (N/2^k) f):=by
        show _=_;rw[B,T.out,show g=64-r by omega,HO.out]
       clear U B;go_wp2
       refine dv 18 (by kernel_rfl) (by kernel_rfl) ?_;simp only[List.take_succ_cons,List.take_zero,List.drop_succ_cons,List.drop_zero];(repeat still_step);(try refine wpStill_nil ?_);go_wp2
       refine⟨⟨i+1,by omega,by omega,by go_num,((q.out.setCell (by simp) _).setCell (by simp) _).drew,?_,((A.out.ac (by simp) _).ac (by simp) _).drew⟩,(by first|(simp[intOf];done)|(simp[intOf];omega))⟩;have O:=l.out;have E:i-m=f:=by omega
       have L:i+1-m=f+1:=by omega
       have z:=C.out;rw[E] at z;rw[L];exact(wK z G.out).drew
      ·have M:i=15:=by omega
       have G:Hid (v=wdn (N/2^k) f):=by
        show _=_;have n:wdn N (i+1)=0:=co N (i+1) 16 (LtW.of16 V.out) (by omega);rw[T.out,HX.out,n,Nat.zero_mul,Nat.zero_mod,Nat.add_zero]
       have j1:¬(i:Int)+1<16:=by omega
       clear M;go_wp2
       refine⟨⟨i+1,by omega,by omega,by go_num,q.out.setCell (by simp) _,?_,A.out.ac (by simp) _⟩,(by first|(simp[intOf];done)|(simp[intOf];omega))⟩;have O:=l.out;have E:i-m=f:=by omega
       have L:i+1-m=f+1:=by omega
       have z:=C.out;rw[E] at z;rw[L];exact rE z G.out
    ·have H:i=16:=by omega
     have he:N/2^k%2^(64*(i-m))=N/2^k:=by
      refine Nat.mod_eq_of_lt ?_;have O:LtW N i:=LtW.of_eq H V.out;rw[Nat.div_lt_iff_lt_mul (Nat.two_pow_pos _),<-Nat.pow_add];refine Nat.lt_of_lt_of_le O (dL _ _ ?_);rw[F.out];omega
     rw[he] at x;have q:=Lh I;have P:=Lh (Blk.ee n (rowW 16 (N/2^k)));have S:=vr N m r (by omega);rw[<-F.out] at S;have HR:=Lh S;have i2:¬(i:Int)<16:=by omega
     clear I he S J;by_cases c:m<16/\0<r
     ·have c1:wr.cell? ⟨b,o+m,none⟩=some (.int .u64 (wd N m)):=(D.below q.out m c.1).1;obtain⟨g,U⟩:∃g,g+r=64:=⟨64-r,by omega⟩;have j1:(m:Int)<16:=by omega
      have j2:0<r:=c.2;have x3:wrap64 (64-(r:Int))=(g:Int):=by unfold wrap64;omega
      obtain⟨v,y⟩:∃v,v=wdn N m*2^g%18446744073709551616:=⟨_,rfl⟩;have s1:IntKind.u64.wrap (wd N m*2^g)=(v:Int):=by rw[y];exact fI _ _
      have s2:IntKind.u64.wrap (wd N m*2^(64-r))=(v:Int):=by rw[show 64-r=g by omega];exact s1
      have l:Hid (lost N k=(left? N m||((v:Int) != 0))):=by
       show _=_;have h5:((v:Int) != 0)=decide (v≠0):=by by_cases h:v=0<;>simp[h]
       rw[h5,Bool.eq_iff_iff];unfold left? lost;simp only[decide_eq_true_eq,Bool.or_eq_true];rw[y,show g=64-r by omega];exact HR.out
      clear y U c;generalize left? N m=t at l ⊢;cases t with
      | true=>
       go_wp2_with (first|(refine wpList_load_row rfl 151 _ rfl _ rfl 151 _ (0,0) _ x underlying151 rfl (by rw[aD];exact aO) ?_)|(refine wpList_store_row rfl 151 _ _ rfl _ _ rfl rfl 151 _ n (by rw[aD];exact aO) (by rw[aD,aD]) (bN _ _) ?_))
       exact bodyPost_ret (v:=.tuple #[.agg (rowW 16 (N/2^k)),true]) (by exact cM (p:=4) (u:=5) (ty:=151) rfl _ _ _ _ _ _ rfl P.out underlying151 rfl (by rw[aD];exact aO)) rfl ⟨by rw[l.out];rfl,cJ q.out (by omega) _⟩
      | false=>
       go_wp2_with (first|(refine wpList_load_row rfl 151 _ rfl _ rfl 151 _ (0,0) _ x underlying151 rfl (by rw[aD];exact aO) ?_)|(refine wpList_store_row rfl 151 _ _ rfl _ _ rfl rfl 151 _ n (by rw[aD];exact aO) (by rw[aD,aD]) (bN _ _) ?_))
       exact bodyPost_ret (v:=.tuple #[.agg (rowW 16 (N/2^k)),.bool ((v:Int) != 0)]) (by exact cM (p:=4) (u:=5) (ty:=151) rfl _ _ _ _ _ _ rfl P.out underlying151 rfl (by rw[aD];exact aO)) rfl ⟨by rw[l.out];rfl,cJ q.out (by omega) _⟩
     · have l : Hid (lost N k = left? N m) := by
         show _=_;unfold left? lost;rw[Bool.eq_iff_iff];simp only[decide_eq_true_eq];rcases Nat.lt_or_ge m 16 with h|h
         ·have j:r=0:=by omega
          have:=F.out;rw[j,Nat.add_zero] at this;rw[this]
         ·have a:m=16:=by omega
          have n:wdn N m=0:=co N m 16 (LtW.of16 V.out) (by omega);rw[HR.out,n,Nat.zero_mul,Nat.zero_mod];simp
       generalize left? N m=t at l ⊢;by_cases a:m<16
       ·have j:¬0<r:=fun h=>c ⟨a,h⟩;have j1:(m:Int)<16:=by omega
        clear c a;go_wp2_with (first|(refine wpList_load_row rfl 151 _ rfl _ rfl 151 _ (0,0) _ x underlying151 rfl (by rw[aD];exact aO) ?_)|(refine wpList_store_row rfl 151 _ _ rfl _ _ rfl rfl 151 _ n (by rw[aD];exact aO) (by rw[aD,aD]) (bN _ _) ?_))
        exact bodyPost_ret (v:=.tuple #[.agg (rowW 16 (N/2^k)),t]) (by exact cM (p:=4) (u:=5) (ty:=151) rfl _ _ _ _ _ _ rfl P.out underlying151 rfl (by rw[aD];exact aO)) rfl ⟨by rw[l.out],cJ q.out (by omega) _⟩
       ·have j1:¬(m:Int)<16:=by omega
        clear c a;go_wp2_with (first|(refine wpList_load_row rfl 151 _ rfl _ rfl 151 _ (0,0) _ x underlying151 rfl (by rw[aD];exact aO) ?_)|(refine wpList_store_row rfl 151 _ _ rfl _ _ rfl rfl 151 _ n (by rw[aD];exact aO) (by rw[aD,aD]) (bN _ _) ?_))
        exact bodyPost_ret (v:=.tuple #[.agg (rowW 16 (N/2^k)),t]) (by exact cM (p:=4) (u:=5) (ty:=151) rfl _ _ _ _ _ _ rfl P.out underlying151 rfl (by rw[aD];exact aO)) rfl ⟨by rw[l.out],cJ q.out (by omega) _⟩
theorem DN(y:Nat)(w:World)(c:y<18446744073709551616):Calls prog 265 #[.int .u64 (y:Int)] w fun e a=>e=.returned (.int .i64 ((64-bl y:Nat):Int))/\a=w:=by
 have b:bl y<=64:=(cE y 64).2 c;have E:=Lh b;have d:(bl y:Int)<=64:=by omega
 clear b;go_enter func265,ntmps265;go_wp2_with (go_at_call 240;refine(ul _ _ (by omega) (by omega)).mono ?_;rintro e a ⟨rfl,rfl⟩;rw[show((y:Int)).toNat=y by omega])
 go_ret;exact⟨cq (by have:=E.out;omega),rfl⟩
theorem yk(y s:Nat)(w:World)(b:y<18446744073709551616)(c:s=64-bl y):Calls prog 265 #[.int .u64 (y:Int)] w fun e a=>e=.returned (.int .i64 (s:Int))/\a=w:=by
 subst c;exact DN y w b
theorem rK(x:Nat)(a:x<18446744073709551616):bits .and .u64 (x:Int) 4294967295=((x%4294967296:Nat):Int):=by
 have:=bits_and_u64_nat x 4294967295 a (by decide);rw[show(4294967295:Nat)=2^32-1 from rfl,Nat.and_two_pow_sub_one_eq_mod] at this;exact this
theorem Al(X L:Nat):X*18446744073709551616+(L/4294967296*4294967296+L%4294967296)=X*18446744073709551616+L:=by
 rw[Nat.mul_comm (L/4294967296),Nat.div_add_mod]
theorem fm(x:Nat)(a:x<18446744073709551616):IntKind.u64.wrap (x:Int)=(x:Int):=by rw [IntKind.wrap_u64];omega
theorem mr(x a:Nat):(x:Int).tdiv (a:Int)=((x/a:Nat):Int):=by
 rw[Int.tdiv_eq_ediv_of_nonneg (by omega),Int.natCast_ediv]
theorem fp(x y z:Nat)(h:z=x*y)(a:z<18446744073709551616):IntKind.u64.wrap ((x:Int)*(y:Int))=(z:Int):=by
 rw[<-Int.natCast_mul,<-h];exact fm z a
theorem BL(h l y:Nat)(w:World)(hh:h<y)(hy:y<18446744073709551616)(hl:l<18446744073709551616)(h0:h≠0):zR 264 #[.int .u64 (h:Int),.int .u64 (l:Int),.int .u64 (y:Int)] w (.tuple #[.int .u64 (((h*18446744073709551616+l)/y:Nat):Int),.int .u64 (((h*18446744073709551616+l)%y:Nat):Int)]):=by
 have HY:=Lh hy;have i1:¬((y:Int)=0):=by omega
 have i2:¬(y:Int)<=(h:Int):=by omega
 have i3:¬((h:Int)=0):=by omega
 obtain⟨nb,H,n2⟩:=nR y (by omega) hy;obtain⟨s,hs⟩:∃s,s=64-bl y:=⟨_,rfl⟩;rw[<-hs] at H n2;have HS:=Lh hs;have c2:s<=64:=by omega
 obtain⟨g,F⟩:∃g,g=64-s:=⟨_,rfl⟩;have z0:0<bl y:=iL y (by omega);have z1:IntKind.u64.wrap (s:Int)=(s:Int):=fm _ (by omega);have z2:(s:Int)<64:=by omega
 have z3:s<64:=by omega
 have z4:IntKind.u64.wrap (64-(s:Int))=(g:Int):=by rw[IntKind.wrap_u64];omega
 have z5:min g 64=g:=by omega
 have z6:min s 64=s:=by omega
 have z7:(0:Int)<=(s:Int):=by omega
 have z8:(0:Int)<=(g:Int):=by omega
 obtain⟨m1,m2,m3⟩:=rm h l y s c2 H hh hl;obtain⟨Y,hY⟩:∃Y,Y=y*2^s:=⟨_,rfl⟩;obtain⟨X,B⟩:∃X,X=h*2^s+l/2^(64-s):=⟨_,rfl⟩;obtain⟨L,hL⟩:∃L,L=l*2^s%18446744073709551616:=⟨_,rfl⟩;obtain⟨Hs,Z⟩:∃Hs,Hs=h*2^s%18446744073709551616:=⟨_,rfl⟩;have f1:IntKind.u64.wrap ((y:Int)*2^s)=(Y:Int):=by rw[fI,Nat.mod_eq_of_lt H,hY]
 have f0:IntKind.u64.wrap ((h:Int)*2^s)=(Hs:Int):=by rw[fI,Z]
 have f4:bits .or .u64 (Hs:Int) ((l:Int)/2^g)=(X:Int):=by
  rw[F,xT Hs l (64-s) l rfl (by rw[Z];exact dO _) hl,Z,m1,B]
 have f5:IntKind.u64.wrap ((l:Int)*2^s)=(L:Int):=by rw[fI,hL]
 rw[<-B,<-hL] at m3;rw[<-B,<-hY] at m2;rw[<-hY] at H n2;have d6:L<18446744073709551616:=by rw[hL];exact dO _
 have E:=Lh (rn h l y s X (L%4294967296) (L/4294967296) ((Al X L).trans m3) (by omega) (by omega) (by rw[<-hY];exact m2));rw[<-hY] at E;obtain⟨a,ha⟩:∃a,a=Y/4294967296:=⟨_,rfl⟩;obtain⟨b,hb⟩:∃b,b=Y%4294967296:=⟨_,rfl⟩;obtain⟨c,hc⟩:∃c,c=L/4294967296:=⟨_,rfl⟩;obtain⟨d,hd⟩:∃d,d=L%4294967296:=⟨_,rfl⟩;rw[<-hc,<-hd] at E;have f2:(Y:Int)/4294967296=(a:Int):=by omega
 have f3:bits .and .u64 (Y:Int) 4294967295=(b:Int):=by rw[rK Y H,hb]
 have f6:(L:Int)/4294967296=(c:Int):=by omega
 have f7:bits .and .u64 (L:Int) 4294967295=(d:Int):=by rw[rK L d6,hd]
 have k:Y=a*4294967296+b:=by omega
 have M:2147483648<=a:=by omega
 have A:a<4294967296:=by omega
 have G:b<4294967296:=by omega
 have K:c<4294967296:=by omega
 have bd:d<4294967296:=by omega
 clear hY B hL Z m1 m3 F z0 hs nb ha hb hc hd d6;have B:X<a*4294967296+b:=by omega
 have o:X<18446744073709551616:=by omega
 have T0:=mH X c a b M G K B;obtain⟨q0,b8⟩:∃q0,q0=X/a:=⟨_,rfl⟩;obtain⟨r0,c9⟩:∃r0,r0=X%a:=⟨_,rfl⟩;rw[<-b8,<-c9] at T0;obtain⟨p0,c7⟩:∃p0,p0=q0*a:=⟨_,rfl⟩;have c3:r0<a:=by rw[c9];exact Nat.mod_lt _ (by omega)
 have t1:=T0.1;have U:=T0.2.2;rw[<-c7] at t1;have g1:(X:Int).tdiv (a:Int)=(q0:Int):=by rw[mr,b8]
 have f8:(X:Int)/(a:Int)=(q0:Int):=by rw[<-Int.natCast_ediv,b8]
 have g2:IntKind.u64.wrap (q0:Int)=(q0:Int):=fm _ (by omega);have g3:IntKind.u64.wrap ((q0:Int)*(a:Int))=(p0:Int):=fp _ _ _ c7 (by omega);have g4:IntKind.u64.wrap ((X:Int)-(p0:Int))=(r0:Int):=by rw[IntKind.wrap_u64];omega
 have ia:¬(a:Int)=0:=by omega
 have f9:((a:Int)==0)=false:=by simp;omega
 have e4:=Lh T0;have e8:=Lh c3;clear T0 t1 U b8 c9 c7 c3;have HB:Hid (2147483648<=a/\a<4294967296/\b<4294967296/\c<4294967296/\d<4294967296/\X<a*4294967296+b/\X<18446744073709551616/\Y=a*4294967296+b/\Y<18446744073709551616):=⟨M,A,G,K,bd,B,o,k,H⟩;clear M A G K bd B o k H n2 m2;clear hh hl h0 c2;go_enter func264,ntmps264;go_upto_block 0 with (go_at_call 265;refine(yk _ s _ HY.out HS.out).mono ?_;rintro e w' ⟨rfl,rfl⟩)
 go_cut [15,16] from 67 to 85 (fun v J wc=>(∃r:Nat,J=.int .u64 (r:Int))/\v=.int .u64 (((X*4294967296+c)/Y:Nat):Int)/\wc=w')
 case first=>
  go_wp2_with fail;go_loop [15,16] (fun v J=>∃q r:Nat,v=.int .u64 (q:Int)/\J=.int .u64 (r:Int)/\r<4294967296/\Hid (ix X c a b q r)) (fun v _=>(intOf v).toNat)
  case atStart=>exact⟨q0,r0,rfl,rfl,by have:=e8.out;have:=HB.out.2.1;omega,e4⟩
  case round=>
   obtain⟨q,r,rfl,rfl,hr,HT⟩:=hrel;obtain⟨M,A,G,K,bd,B,o,k,H⟩:=HB.out;have U:=HT.out.2.2;have C:=ou X c a b q r Y HT.out k B K G;by_cases F:4294967296<=q∨4294967296*r+c<q*b
   ·obtain⟨p,t,hp,O,T',hD⟩:=C.1 F;have N:=Lh T';have HD:=Lh hD;have HP:=Lh hp;have j1:IntKind.u64.wrap ((q:Int)-1)=(p:Int):=by rw[IntKind.wrap_u64];omega
    have j2:IntKind.u64.wrap ((r:Int)+(a:Int))=(t:Int):=by rw[IntKind.wrap_u64];omega
    clear C T' hD k B o H;by_cases S:4294967296<=q
    ·have j4:(4294967296:Int)<=(q:Int):=by omega
     clear F hp O U;by_cases x:4294967296<=t
     ·have j3:(4294967296:Int)<=(t:Int):=by omega
      go_wp2_with fail;go_meet;exact⟨⟨_,rfl⟩,by rw[<-HD.out x],rfl⟩
     ·have j3:(t:Int)<4294967296:=by omega
      have j6:¬(4294967296:Int)<=(t:Int):=by omega
      have j7:decide ((4294967296:Int)<=(t:Int))=false:=by simp;omega
      clear x;go_wp2_with fail;go_round
      case rel=>exact⟨p,t,rfl,rfl,by omega,N⟩
      case measure=>have:=HP.out;simp[intOf];omega
    ·obtain⟨n,j⟩:∃n,n=q*b:=⟨_,rfl⟩;have m:n<18446744073709551616:=by rw[j];exact Nat.lt_of_lt_of_le (Nat.mul_lt_mul'' (Nat.lt_of_not_le S) G) (by decide)
     have I:4294967296*r+c<n:=by rw[j];exact F.resolve_left S
     obtain⟨f,u⟩:∃f,f=4294967296*r+c:=⟨_,rfl⟩;obtain⟨i,z⟩:∃i,i=4294967296*r:=⟨_,rfl⟩;have k1:IntKind.u64.wrap ((q:Int)*(b:Int))=(n:Int):=fp _ _ _ j m;have k2:IntKind.u64.wrap (4294967296*(r:Int))=(i:Int):=by rw[IntKind.wrap_u64];omega
     have k3:IntKind.u64.wrap ((i:Int)+(c:Int))=(f:Int):=by rw[IntKind.wrap_u64];omega
     have j4:(q:Int)<4294967296:=by omega
     have j5:(f:Int)<(n:Int):=by omega
     clear F hp O U j m I u z;by_cases x:4294967296<=t
     ·have j3:(4294967296:Int)<=(t:Int):=by omega
      go_wp2_with fail;go_meet;exact⟨⟨_,rfl⟩,by rw[<-HD.out x],rfl⟩
     ·have j3:(t:Int)<4294967296:=by omega
      have j6:¬(4294967296:Int)<=(t:Int):=by omega
      have j7:decide ((4294967296:Int)<=(t:Int))=false:=by simp;omega
      clear x;go_wp2_with fail;go_round
      case rel=>exact⟨p,t,rfl,rfl,by omega,N⟩
      case measure=>have:=HP.out;simp[intOf];omega
   ·have HD:=Lh (C.2 F);have S:q<4294967296:=by omega
    obtain⟨n,j⟩:∃n,n=q*b:=⟨_,rfl⟩;have m:n<18446744073709551616:=by rw[j];exact Nat.lt_of_lt_of_le (Nat.mul_lt_mul'' S G) (by decide)
    have I:¬4294967296*r+c<n:=by rw[j];exact fun h=>F (.inr h)
    obtain⟨f,u⟩:∃f,f=4294967296*r+c:=⟨_,rfl⟩;obtain⟨i,z⟩:∃i,i=4294967296*r:=⟨_,rfl⟩;have k1:IntKind.u64.wrap ((q:Int)*(b:Int))=(n:Int):=fp _ _ _ j m;have k2:IntKind.u64.wrap (4294967296*(r:Int))=(i:Int):=by rw[IntKind.wrap_u64];omega
    have k3:IntKind.u64.wrap ((i:Int)+(c:Int))=(f:Int):=by rw[IntKind.wrap_u64];omega
    have j4:(q:Int)<4294967296:=by omega
    have j5:(n:Int)<=(f:Int):=by omega
    have j8:¬(4294967296:Int)<=(q:Int):=by omega
    have j9:¬f<n:=by omega
    have j10:¬4294967296<=q:=by omega
    clear F U j m I u z C k B o H S M A G K bd hr;go_wp2_with fail;go_meet;exact⟨⟨_,rfl⟩,by rw[<-HD.out],rfl⟩
 case rest=>
  obtain⟨⟨r,rfl⟩,rfl,e9⟩:=hcut;subst e9;obtain⟨M,A,G,K,bd,B,o,k,H⟩:=HB.out;obtain⟨Q,hQ⟩:∃Q,Q=(X*4294967296+c)/Y:=⟨_,rfl⟩;obtain⟨R,hR⟩:∃R,R=(X*4294967296+c)%Y:=⟨_,rfl⟩;rw[<-hQ,<-hR] at E;rw[<-hQ];have D:=Nat.div_add_mod (X*4294967296+c) Y;rw[<-hQ,<-hR] at D;have a0:R<Y:=by rw[hR];exact Nat.mod_lt _ (by omega)
  have d5:Q<4294967296:=by rw[hQ,k];exact pH X c a b K B
  obtain⟨P,hP⟩:∃P,P=Q*Y:=⟨_,rfl⟩;rw[Nat.mul_comm,<-hP] at D;obtain⟨M1,e0⟩:∃M1,M1=X*4294967296%18446744073709551616:=⟨_,rfl⟩;obtain⟨M2,d7⟩:∃M2,M2=(M1+c)%18446744073709551616:=⟨_,rfl⟩;obtain⟨P2,e2⟩:∃P2,P2=P%18446744073709551616:=⟨_,rfl⟩;have a1:IntKind.u64.wrap ((X:Int)*4294967296)=(M1:Int):=by rw[IntKind.wrap_u64];omega
  have a2:IntKind.u64.wrap ((M1:Int)+(c:Int))=(M2:Int):=by rw[IntKind.wrap_u64];omega
  have a3:IntKind.u64.wrap ((Q:Int)*(Y:Int))=(P2:Int):=by rw[<-Int.natCast_mul,<-hP,IntKind.wrap_u64];omega
  have a4:IntKind.u64.wrap ((M2:Int)-(P2:Int))=(R:Int):=by
   rw[IntKind.wrap_u64,<-nK X c P R Y a0 (by omega) D o K,d7,e0,e2];omega
  have T1:=mH R d a b M G bd (by rw[<-k];exact a0);obtain⟨W,b9⟩:∃W,W=R/a:=⟨_,rfl⟩;obtain⟨r1,c6⟩:∃r1,r1=R%a:=⟨_,rfl⟩;rw[<-b9,<-c6] at T1;obtain⟨p1,d0⟩:∃p1,p1=W*a:=⟨_,rfl⟩;have c0:r1<a:=by rw[c6];exact Nat.mod_lt _ (by omega)
  have t1:=T1.1;have U:=T1.2.2;rw[<-d0] at t1;have a5:(R:Int).tdiv (a:Int)=(W:Int):=by rw[mr,b9]
  have a6:(R:Int)/(a:Int)=(W:Int):=by rw[<-Int.natCast_ediv,b9]
  have a7:IntKind.u64.wrap (W:Int)=(W:Int):=fm _ (by omega);have a8:IntKind.u64.wrap ((W:Int)*(a:Int))=(p1:Int):=fp _ _ _ d0 (by omega);have a9:IntKind.u64.wrap ((R:Int)-(p1:Int))=(r1:Int):=by rw[IntKind.wrap_u64];omega
  have e6:=Lh T1;have e5:=Lh c0;have c4:Hid (R<a*4294967296+b):=by show R<_;rw[<-k];exact a0
  have e7:=Lh d5;clear M A G K bd B o k H hQ hR D a0 d5 hP e0 d7 e2 T1 t1 U b9 c6 d0 c0;obtain⟨c5,V⟩:∃c5:World,c5=wc:=⟨_,rfl⟩;go_upto_block 2 with fail
  go_cut [18,16] from 102 to 120 (fun v J wc=>(∃r:Nat,J=.int .u64 (r:Int))/\v=.int .u64 (((R*4294967296+d)/Y:Nat):Int)/\wc=c5)
  case first=>
   go_wp2_with fail;go_loop [18,16] (fun v J=>∃q r:Nat,v=.int .u64 (q:Int)/\J=.int .u64 (r:Int)/\r<4294967296/\Hid (ix R d a b q r)) (fun v _=>(intOf v).toNat)
   case atStart=>exact⟨W,r1,rfl,rfl,by have:=e5.out;have:=HB.out.2.1;omega,e6⟩
   case round=>
    obtain⟨q,r,rfl,rfl,hr,HT⟩:=hrel;obtain⟨M,A,G,K,bd,B,o,k,H⟩:=HB.out;have U:=HT.out.2.2;have C:=ou R d a b q r Y HT.out k c4.out bd G;by_cases F:4294967296<=q∨4294967296*r+d<q*b
    ·obtain⟨p,t,hp,O,T',hD⟩:=C.1 F;have N:=Lh T';have HD:=Lh hD;have HP:=Lh hp;have j1:IntKind.u64.wrap ((q:Int)-1)=(p:Int):=by rw[IntKind.wrap_u64];omega
     have j2:IntKind.u64.wrap ((r:Int)+(a:Int))=(t:Int):=by rw[IntKind.wrap_u64];omega
     clear C T' hD k B o H;by_cases S:4294967296<=q
     ·have j4:(4294967296:Int)<=(q:Int):=by omega
      clear F hp O U;by_cases x:4294967296<=t
      ·have j3:(4294967296:Int)<=(t:Int):=by omega
       go_wp2_with fail;go_meet;exact⟨⟨_,rfl⟩,by rw[<-HD.out x],V.symm⟩
      ·have j3:(t:Int)<4294967296:=by omega
       have j6:¬(4294967296:Int)<=(t:Int):=by omega
       have j7:decide ((4294967296:Int)<=(t:Int))=false:=by simp;omega
       clear x;go_wp2_with fail;go_round
       case rel=>exact⟨p,t,rfl,rfl,by omega,N⟩
       case measure=>have:=HP.out;simp[intOf];omega
     ·obtain⟨n,j⟩:∃n,n=q*b:=⟨_,rfl⟩;have m:n<18446744073709551616:=by rw[j];exact Nat.lt_of_lt_of_le (Nat.mul_lt_mul'' (Nat.lt_of_not_le S) G) (by decide)
      have I:4294967296*r+d<n:=by rw[j];exact F.resolve_left S
      obtain⟨f,u⟩:∃f,f=4294967296*r+d:=⟨_,rfl⟩;obtain⟨i,z⟩:∃i,i=4294967296*r:=⟨_,rfl⟩;have k1:IntKind.u64.wrap ((q:Int)*(b:Int))=(n:Int):=fp _ _ _ j m;have k2:IntKind.u64.wrap (4294967296*(r:Int))=(i:Int):=by rw[IntKind.wrap_u64];omega
      have k3:IntKind.u64.wrap ((i:Int)+(d:Int))=(f:Int):=by rw[IntKind.wrap_u64];omega
      have j4:(q:Int)<4294967296:=by omega
      have j5:(f:Int)<(n:Int):=by omega
      clear F hp O U j m I u z;by_cases x:4294967296<=t
      ·have j3:(4294967296:Int)<=(t:Int):=by omega
       go_wp2_with fail;go_meet;exact⟨⟨_,rfl⟩,by rw[<-HD.out x],V.symm⟩
      ·have j3:(t:Int)<4294967296:=by omega
       have j6:¬(4294967296:Int)<=(t:Int):=by omega
       have j7:decide ((4294967296:Int)<=(t:Int))=false:=by simp;omega
       clear x;go_wp2_with fail;go_round
       case rel=>exact⟨p,t,rfl,rfl,by omega,N⟩
       case measure=>have:=HP.out;simp[intOf];omega
    ·have HD:=Lh (C.2 F);have S:q<4294967296:=by omega
     obtain⟨n,j⟩:∃n,n=q*b:=⟨_,rfl⟩;have m:n<18446744073709551616:=by rw[j];exact Nat.lt_of_lt_of_le (Nat.mul_lt_mul'' S G) (by decide)
     have I:¬4294967296*r+d<n:=by rw[j];exact fun h=>F (.inr h)
     obtain⟨f,u⟩:∃f,f=4294967296*r+d:=⟨_,rfl⟩;obtain⟨i,z⟩:∃i,i=4294967296*r:=⟨_,rfl⟩;have k1:IntKind.u64.wrap ((q:Int)*(b:Int))=(n:Int):=fp _ _ _ j m;have k2:IntKind.u64.wrap (4294967296*(r:Int))=(i:Int):=by rw[IntKind.wrap_u64];omega
     have k3:IntKind.u64.wrap ((i:Int)+(d:Int))=(f:Int):=by rw[IntKind.wrap_u64];omega
     have j4:(q:Int)<4294967296:=by omega
     have j5:(n:Int)<=(f:Int):=by omega
     have j8:¬(4294967296:Int)<=(q:Int):=by omega
     have j9:¬f<n:=by omega
     have j10:¬4294967296<=q:=by omega
     clear F U j m I u z C k B o H S M A G K bd hr;go_wp2_with fail;go_meet;exact⟨⟨_,rfl⟩,by rw[<-HD.out],V.symm⟩
  case rest=>
   obtain⟨⟨r2,rfl⟩,rfl,rfl⟩:=hcut;obtain⟨M,A,G,K,bd,B,o,k,H⟩:=HB.out;obtain⟨Q2,T⟩:∃Q2,Q2=(R*4294967296+d)/Y:=⟨_,rfl⟩;obtain⟨R2,b0⟩:∃R2,R2=(R*4294967296+d)%Y:=⟨_,rfl⟩;rw[<-T,<-b0] at E;rw[<-T];have D:=Nat.div_add_mod (R*4294967296+d) Y;rw[<-T,<-b0] at D;have c1:R2<Y:=by rw[b0];exact Nat.mod_lt _ (by omega)
   have d2:Q2<4294967296:=by rw[T,k];exact pH R d a b bd c4.out
   have e3:=e7.out;have d3:R<18446744073709551616:=by have:=c4.out;omega
   obtain⟨P,hP⟩:∃P,P=Q2*Y:=⟨_,rfl⟩;rw[Nat.mul_comm,<-hP] at D;obtain⟨N1,d9⟩:∃N1,N1=R*4294967296%18446744073709551616:=⟨_,rfl⟩;obtain⟨N2,d1⟩:∃N2,N2=(N1+d)%18446744073709551616:=⟨_,rfl⟩;obtain⟨P3,e1⟩:∃P3,P3=P%18446744073709551616:=⟨_,rfl⟩;obtain⟨Q3,d4⟩:∃Q3,Q3=Q*4294967296:=⟨_,rfl⟩;obtain⟨Q4,d8⟩:∃Q4,Q4=Q3+Q2:=⟨_,rfl⟩;obtain⟨R3,c8⟩:∃R3,R3=R2/2^s:=⟨_,rfl⟩;have b1:IntKind.u64.wrap ((R:Int)*4294967296)=(N1:Int):=by rw[IntKind.wrap_u64];omega
   have b2:IntKind.u64.wrap ((N1:Int)+(d:Int))=(N2:Int):=by rw[IntKind.wrap_u64];omega
   have b3:IntKind.u64.wrap ((Q2:Int)*(Y:Int))=(P3:Int):=by rw[<-Int.natCast_mul,<-hP,IntKind.wrap_u64];omega
   have b4:IntKind.u64.wrap ((N2:Int)-(P3:Int))=(R2:Int):=by
    rw[IntKind.wrap_u64,<-nK R d P R2 Y c1 (by omega) D d3 bd,d1,d9,e1];omega
   have b5:IntKind.u64.wrap ((Q:Int)*4294967296)=(Q3:Int):=by rw[IntKind.wrap_u64];omega
   have b6:IntKind.u64.wrap ((Q3:Int)+(Q2:Int))=(Q4:Int):=by rw[IntKind.wrap_u64];omega
   have b7:(R2:Int)/2^s=(R3:Int):=by rw[c8];exact oS _ _ _ rfl
   have E1:Hid (Q4=(h*18446744073709551616+l)/y):=by show Q4=_;rw[d8,d4];exact E.out.1
   have E2:Hid (R3=(h*18446744073709551616+l)%y):=by show R3=_;rw[c8];exact E.out.2
   clear M A G K bd B o k H T b0 D c1 d2 e3 d3 hP d9 d1 e1 d4 d8 c8 E;go_wp2
   go_ret2
   exact⟨by rw[<-E1.out,<-E2.out];rfl,Below.refl _ _⟩
theorem BM(l y:Nat)(w:World)(d:y<18446744073709551616)(c:l<18446744073709551616)(e:y≠0):zR 264 #[.int .u64 0,.int .u64 (l:Int),.int .u64 (y:Int)] w (.tuple #[.int .u64 ((l/y:Nat):Int),.int .u64 ((l%y:Nat):Int)]):=by
 obtain⟨q,b⟩:∃q,q=l/y:=⟨_,rfl⟩;obtain⟨r,a⟩:∃r,r=l%y:=⟨_,rfl⟩;have n:¬((y:Int)=0):=by omega
 have f:¬(y:Int)<=0:=by omega
 have h:(l:Int).tdiv (y:Int)=(q:Int):=by rw[mr,b]
 have j:(l:Int)/(y:Int)=(q:Int):=by rw[<-Int.natCast_ediv,b]
 have k:IntKind.u64.wrap (q:Int)=(q:Int):=fm _ (by rw[b];exact Nat.lt_of_le_of_lt (Nat.div_le_self _ _) c);have g:(l:Int).tmod (y:Int)=(r:Int):=by rw[Int.tmod_eq_emod_of_nonneg (by omega),a];rfl
 have m:(l:Int)%(y:Int)=(r:Int):=by rw[a];rfl
 have i:IntKind.u64.wrap (r:Int)=(r:Int):=fm _ (by rw[a];exact Nat.lt_of_le_of_lt (Nat.mod_le _ _) c);rw[<-b,<-a];clear b a d c e;go_enter func264,ntmps264;go_wp2_with fail;go_quiet (fail)
 go_wp2_with fail;go_ret2
 exact⟨rfl,ae⟩
theorem uI(h l y q r:Nat)(w:World)(c:h<y)(a:y<18446744073709551616)(b:l<18446744073709551616)(e:q=(h*18446744073709551616+l)/y)(d:r=(h*18446744073709551616+l)%y):zR 264 #[.int .u64 (h:Int),.int .u64 (l:Int),.int .u64 (y:Int)] w (.tuple #[.int .u64 (q:Int),.int .u64 (r:Int)]):=by
 subst e;subst d;rcases Nat.eq_zero_or_pos h with rfl|f
 ·have:=BM l y w a b (by omega);rw[Nat.zero_mul,Nat.zero_add];exact this
 ·exact BL h l y w c a b (by omega)
theorem bH{w a:World}(h:∃p:Regrown,a=Go.Sort.grow (redrawn w p.d) p.os):zB w a:=by
 obtain⟨⟨d,b⟩,rfl⟩:=h;exact below_regrown w d b
theorem iz(x:Nat):x/18446744073709551616*18446744073709551616+x%18446744073709551616=x:=by rw [Nat.mul_comm];exact Nat.div_add_mod _ _
theorem yg(x y c:Nat)(f:x<18446744073709551616)(d:y<18446744073709551616)(e:c<18446744073709551616):∃H L l c1 a:Nat,H=x*y/18446744073709551616/\L=x*y%18446744073709551616/\L<18446744073709551616/\l=(L+c)%18446744073709551616/\c1=(L+c)/18446744073709551616/\a=H+c1/\a<18446744073709551616/\l<18446744073709551616/\x*y+c=a*18446744073709551616+l:=by
 refine⟨_,_,_,_,_,rfl,rfl,Nat.mod_lt _ (by decide),rfl,rfl,rfl,?_,Nat.mod_lt _ (by decide),?_⟩
 all_goals
  have b:x*y<=18446744073709551615*18446744073709551615:=Nat.mul_le_mul (by omega) (by omega);generalize x*y=p at *;omega
theorem tP(X Y b t c:Nat)(j:X<18446744073709551616)(k:Y<18446744073709551616)(i:b<=1)(a:c=if X<Y+b then 1 else 0)(d:t+Y+b=X+c*18446744073709551616)(w:World):(callFunc 269 #[.int .u64 (X:Int),.int .u64 (Y:Int),.int .u64 (b:Int)]).run prog w=.ok (.value (.tuple #[.int .u64 (t:Int),.int .u64 (c:Int)])) w:=by
 rw[CH X Y b (by omega) (by omega) (by omega) (by omega) (by omega)];have h:(X:Int)-Y-b=(t:Int)-c*18446744073709551616:=by omega
 have g:((X:Int)-Y-b)%18446744073709551616=(t:Int):=by
  have:c<=1:=by rw[a];split<;>omega
  have e:t<18446744073709551616:=by
   rw[a] at d;split at d<;>omega
  omega
 have f:(if (X:Int)<(Y:Int)+(b:Int) then (1:Int) else 0)=(c:Int):=by
  rw[a];split<;>split<;>omega
 rw[g,f]
theorem p9(X Y b:Nat)(d:X<18446744073709551616)(e:Y<18446744073709551616)(c:b<=1):∃t a:Nat,a=(if X<Y+b then 1 else 0)/\a<=1/\t<18446744073709551616/\t+Y+b=X+a*18446744073709551616:=by
 by_cases h:X<Y+b
 ·exact⟨X+18446744073709551616-Y-b,1,by rw[if_pos h],by omega,by omega,by omega⟩
 ·exact⟨X-Y-b,0,by rw[if_neg h],by omega,by omega,by omega⟩
theorem uR(X Y c t b:Nat)(f:X<18446744073709551616)(g:Y<18446744073709551616)(e:c<=1)(d:t=(X+Y+c)%18446744073709551616)(a:b=(X+Y+c)/18446744073709551616)(w:World):(callFunc 202 #[.int .u64 (X:Int),.int .u64 (Y:Int),.int .u64 (c:Int)]).run prog w=.ok (.value (.tuple #[.int .u64 (t:Int),.int .u64 (b:Int)])) w:=by
 rw[zJ X Y c (by omega) (by omega) (by omega) (by omega) (by omega) (by omega),d,a];congr 5<;>omega
theorem step_c(u bv U V n j L J O:Nat)(w:World)(hn:2<=n)(d9:j+n<=16)(hL:L=n+1)(j1:L<=J)(i8:n<=O)(hV:V<2^(64*n))(d0:wdn V (n-1)≠0)(hU:U<V*2^(64*(j+1)))(b9:Blk w u (rowW 17 U) 351)(d3:Blk w bv (rowW 16 V) 151)(g1:bv<u):Calls prog 267 #[.slice (some ⟨u,j,none⟩) L J,.slice (some ⟨bv,0,none⟩) (n:Nat) O] w fun e w'=>e=.returned (.int .u64 ((U/(V*2^(64*j)):Nat):Int))/\Below u w w'/\Blk w' u (rowW 17 (U%(V*2^(64*j)))) 351:=by
 obtain⟨m,hm⟩:∃m,n=m+2:=⟨n-2,by omega⟩;obtain⟨p,hp⟩:∃p,p=m+1:=⟨_,rfl⟩;obtain⟨W,hW⟩:∃W,W=V*2^(64*j):=⟨_,rfl⟩
 have f1:0<V:=by
  rcases Nat.eq_zero_or_pos V with h|h
  ·rw[h] at d0;exact absurd (pW _) d0
  ·exact h
 have f7:0<W:=by rw[hW];exact Nat.mul_pos f1 (Nat.two_pow_pos _)
 have d5:U<2^(64*(j+m+3)):=by
  refine Nat.lt_of_lt_of_le hU ?_;have:=Nat.mul_le_mul_right (2^(64*(j+1))) (Nat.le_of_lt hV);refine Nat.le_trans this ?_;rw[<-Nat.pow_add];exact dL _ _ (by omega)
 have hQ:U/W<18446744073709551616:=by rw[hW];exact rp U V j f1 hU
 obtain⟨x,P⟩:∃x,x=wdn V p:=⟨_,rfl⟩;obtain⟨T,a6⟩:∃T,T=wdn V m:=⟨_,rfl⟩;obtain⟨R,a1⟩:∃R,R=wdn U (j+n):=⟨_,rfl⟩;obtain⟨u1,Y⟩:∃u1,u1=wdn U (j+p):=⟨_,rfl⟩;obtain⟨u2,a7⟩:∃u2,u2=wdn U (j+m):=⟨_,rfl⟩;have h1:=Ac V n j (by omega);have h2:=zY V n j (by omega) hV;rw[show n-1=p by omega,show j+n-1=j+p by omega,<-P,<-hW] at h1;rw[show n-1=p by omega,show n-2=m by omega,show j+n-2=j+m by omega,<-P,<-a6,<-hW] at h2;rw[show n-1=p by omega,<-P] at d0;have h7:=Lh (Gx U W (j+p) x (by omega) (by rw[show j+p+2=j+m+3 by omega];exact d5) h1)
 have j5:Hid (∀d l,d*x+l=R*18446744073709551616+u1->l*18446744073709551616+u2<d*T->U/W<d):=by
  intro d l N hb;refine Gw U W (j+m) x T d l (by omega) d5 h2 ?_ ?_
  ·rw[N,a1,Y,show j+m+2=j+n by omega,show j+m+1=j+p by omega]
  ·rw[<-a7];exact hb
 rw[show j+p+1=j+n by omega,<-a1,<-Y] at h7;have f6:x<18446744073709551616:=by rw[P];exact bB _ _
 have g5:T<18446744073709551616:=by rw[a6];exact bB _ _
 have h9:R<18446744073709551616:=by rw[a1];exact bB _ _
 have f8:u1<18446744073709551616:=by rw[Y];exact bB _ _
 have g4:u2<18446744073709551616:=by rw[a7];exact bB _ _
 have c0:w.cell? ⟨u,j+n,none⟩=some (.int .u64 (R:Int)):=by rw[a1];exact b9.cell (aZ 17 U _ (by omega))
 have c1:w.cell? ⟨u,j+p,none⟩=some (.int .u64 (u1:Int)):=by rw[Y];exact b9.cell (aZ 17 U _ (by omega))
 have c2:w.cell? ⟨u,j+m,none⟩=some (.int .u64 (u2:Int)):=by rw[a7];exact b9.cell (aZ 17 U _ (by omega))
 have d1:w.cell? ⟨bv,0+p,none⟩=some (.int .u64 (x:Int)):=by rw[P,Nat.zero_add];exact d3.cell (aZ 16 V _ (by omega))
 have d2:w.cell? ⟨bv,0+m,none⟩=some (.int .u64 (T:Int)):=by rw[a6,Nat.zero_add];exact d3.cell (aZ 16 V _ (by omega))
 have d4:w.cell? ⟨bv,p,none⟩=some (.int .u64 (x:Int)):=by rw[Nat.zero_add] at d1;exact d1
 have d7:w.cell? ⟨bv,m,none⟩=some (.int .u64 (T:Int)):=by rw[Nat.zero_add] at d2;exact d2
 have n1:IntKind.i64.wrap ((n:Int)-1)=(p:Int):=by rw[IntKind.wrap_i64];omega
 have n2:IntKind.i64.wrap ((n:Int)-2)=(m:Int):=by rw[IntKind.wrap_i64];omega
 have n3:wrap64 ((n:Int)-1)=(p:Int):=by unfold wrap64;omega
 have n4:wrap64 ((n:Int)-2)=(m:Int):=by unfold wrap64;omega
 have n5:(n:Int)-1=(p:Int):=by omega
 have n6:(n:Int)-2=(m:Int):=by omega
 have p1:IntKind.i64.wrap (p:Int)=(p:Int):=by rw[IntKind.wrap_i64];omega
 have p2:IntKind.i64.wrap (m:Int)=(m:Int):=by rw[IntKind.wrap_i64];omega
 have p3:IntKind.i64.wrap (n:Int)=(n:Int):=by rw[IntKind.wrap_i64];omega
 have o1:(p:Int)<(n:Int):=by omega
 have o2:(m:Int)<(n:Int):=by omega
 have o3:(0:Int)<=(p:Int):=by omega
 have o4:(0:Int)<=(m:Int):=by omega
 have o5:(n:Int)<(L:Int):=by omega
 have o6:(p:Int)<(L:Int):=by omega
 have o7:(m:Int)<(L:Int):=by omega
 have o8:n<=J:=by omega
 have o9:p<=J:=by omega
 have j9:m<=J:=by omega
 have k4:p<=O:=by omega
 have j8:m<=O:=by omega
 have k0:(n:Int)<=16:=by omega
 have k2:(0:Int)<=(n:Int):=by omega
 have o:Hid (n=m+2/\p=m+1/\j+n<=16/\W=V*2^(64*j)/\0<W/\V<2^(64*n)/\U<2^(64*(j+n+1))/\U/W<18446744073709551616/\0<x):=⟨hm,hp,d9,hW,f7,hV,by rw[show j+n+1=j+m+3 by omega];exact d5,hQ,by omega⟩;have HL:Hid (x<18446744073709551616/\T<18446744073709551616/\R<18446744073709551616/\u1<18446744073709551616/\u2<18446744073709551616):=⟨f6,g5,h9,f8,g4⟩;rw[<-hW];have b7:=Lh b9;have f0:=Lh d3;have c6:=Lh g1;clear hm hp d9 hW f7 hV d5 hQ f1 hU f6 g5 h9 f8 g4 P a6 a1 Y a7 h1 h2 hn d0 b9 d3 g1 j1 i8 hL;go_enter func267,ntmps267;go_upto_region 3 with fail
 have HC:Hid (∀C,zB w C->C.cell? ⟨u,j+n,none⟩=some (.int .u64 (R:Int))/\C.cell? ⟨u,j+p,none⟩=some (.int .u64 (u1:Int))/\C.cell? ⟨u,j+m,none⟩=some (.int .u64 (u2:Int))/\C.cell? ⟨bv,p,none⟩=some (.int .u64 (x:Int))/\C.cell? ⟨bv,m,none⟩=some (.int .u64 (T:Int))):=
  fun C hb=>⟨(hb.cell (p:=⟨u,j+n,none⟩) b7.out.lt).trans c0,(hb.cell (p:=⟨u,j+p,none⟩) b7.out.lt).trans c1,(hb.cell (p:=⟨u,j+m,none⟩) b7.out.lt).trans c2,(hb.cell (p:=⟨bv,p,none⟩) f0.out.lt).trans d4,(hb.cell (p:=⟨bv,m,none⟩) f0.out.lt).trans d7⟩
 clear d1 d2;replace c0:=cell_regrown c0;replace c1:=cell_regrown c1;replace c2:=cell_regrown c2;replace d4:=cell_regrown d4;replace d7:=cell_regrown d7;refine wp_region_quiet_below (by kernel_rfl) (by kernel_rfl) ?_;repeat (go_big_quiet_step (fail))
 refine wpQuiet_nil ?_;intro wq g7;have g0:=bH g7;clear g7 c0 c1 c2 d4 d7;have c8:=Lh g0;clear g0;go_upto_if 30 with fail
 go_cut [6] from 7 to 89 (fun s6 wc=>∃D:Nat,s6=.int .u64 (D:Int)/\Hid (U/W<=D/\D<18446744073709551616)/\Hid (zB w wc))
 case first=>
  by_cases g:R<x
  ·have j3:=Lh g;have e4:decide (R<x)=true:=decide_eq_true g;simp only[e4];clear e4;obtain⟨q,hq⟩:∃q,q=(R*18446744073709551616+u1)/x:=⟨_,rfl⟩;obtain⟨r,hr⟩:∃r,r=(R*18446744073709551616+u1)%x:=⟨_,rfl⟩
   have hT:Hid (q*x+r=R*18446744073709551616+u1/\U/W<=q/\q<18446744073709551616/\r<18446744073709551616):=by
    refine⟨by rw[hq,hr,Nat.mul_comm];exact Nat.div_add_mod _ _,by rw[hq];exact h7.out,?_,?_⟩
    ·rw[hq,Nat.div_lt_iff_lt_mul (by omega)];have h1:=Nat.mul_le_mul_right 18446744073709551616 g;have h2:=HL.out.2.2.2.1;rw[Nat.mul_comm 18446744073709551616];have h3:(R+1)*18446744073709551616=R*18446744073709551616+18446744073709551616:=by rw[Nat.add_mul]
     have h4:R.succ*18446744073709551616=(R+1)*18446744073709551616:=rfl;omega
    ·have h5:r<x:=by rw[hr];exact Nat.mod_lt _ (by omega)
     have h6:=HL.out.1;omega
   have HQ:=Lh hq;have HR:=Lh hr;clear hq hr;go_upto_region 5 with fail
   obtain⟨c0,c1,c2,d1,d2⟩:=HC.out wq c8.out;replace c0:=cell_regrown c0;replace c1:=cell_regrown c1;replace d1:=cell_regrown d1;clear c2 d2;refine wp_region_quiet_below (by kernel_rfl) (by kernel_rfl) ?_;repeat (go_big_quiet_step (exact Calls.regrown_of (uI R u1 x q r _ j3.out HL.out.1 HL.out.2.2.2.1 HQ.out HR.out)))
   refine wpQuiet_nil ?_;intro wr i0;have g9:=bH i0;have j0:Hid (zB w wr):=c8.out.trans (g9.mono c8.out.size);clear i0 g9 c0 c1 d1 g;go_wp2_with fail;go_loopw [6,7,8,9,10] (fun s6 s7 _ _ _ C=>∃D l:Nat,s6=.int .u64 (D:Int)/\s7=.int .u64 (l:Int)/\Hid (D*x+l=R*18446744073709551616+u1/\U/W<=D/\D<18446744073709551616/\l<18446744073709551616)/\Hid (zB w C)) (fun s6 _ _ _ _ _=>(intOf s6).toNat)
   case atStart=>exact⟨q,r,rfl,rfl,hT,j0⟩
   case round=>
    obtain⟨D,l,rfl,rfl,HT,f⟩:=hrel;obtain⟨C,k3⟩:∃C:World,C=wr:=⟨_,rfl⟩;obtain⟨c0,c1,c2,d1,d2⟩:=HC.out wr f.out;clear c0 c1;obtain⟨H,hH⟩:∃H,H=D*T/18446744073709551616:=⟨_,rfl⟩;obtain⟨Lo,a3⟩:∃Lo,Lo=D*T%18446744073709551616:=⟨_,rfl⟩;have d8:H*18446744073709551616+Lo=D*T:=by rw[hH,a3];exact iz _
    have v:Lo<18446744073709551616:=by rw[a3];exact dO _
    have HH:=Lh hH;have b0:=Lh a3;have f2:=HL.out.2.2.2.2;have a5:=HT.out.2.2.2;clear hH a3;by_cases hA:H<l
    ·clear d8 v f2 a5;go_wp2_with (go_at_call 201;refine(eU D T H Lo HT.out.2.2.1 HL.out.2.1 HH.out b0.out _).mono ?_;rintro e w' ⟨rfl,rfl⟩)
     go_meet;exact⟨D,rfl,⟨HT.out.2.1,HT.out.2.2.1⟩,f⟩
    ·by_cases hB:H=l/\Lo<=u2
     ·obtain⟨rfl,hB⟩:=hB;clear d8 v f2 a5;go_wp2_with (go_at_call 201;refine(eU D T H Lo HT.out.2.2.1 HL.out.2.1 HH.out b0.out _).mono ?_;rintro e w' ⟨rfl,rfl⟩)
      go_meet;exact⟨D,rfl,⟨HT.out.2.1,HT.out.2.2.1⟩,f⟩
     · have f5 : l * 18446744073709551616 + u2 < D * T := by
         rw[<-d8];rcases Nat.lt_or_ge l H with h|h
         ·have:=Nat.mul_le_mul_right 18446744073709551616 (show l+1<=H from h);rw[Nat.add_mul] at this;omega
         ·have b4:H=l:=by omega
          rw[b4];have:¬Lo<=u2:=fun h=>hB ⟨b4,h⟩;omega
       have g:=j5.out D l HT.out.1 f5;have h0:=Nat.lt_of_le_of_lt (Nat.zero_le _) g;obtain⟨y,a4⟩:∃y,D=y+1:=⟨D-1,by omega⟩;obtain⟨l',c7⟩:∃l',l'=(l+x)%18446744073709551616:=⟨_,rfl⟩;obtain⟨k,hk⟩:∃k,k=(l+x)/18446744073709551616:=⟨_,rfl⟩;have i7:=HT.out.2.2.1;have g3:=HT.out.1;have b1:IntKind.u64.wrap ((D:Int)-1)=(y:Int):=by rw[IntKind.wrap_u64];omega
       have b2:=fun w=>lE l x l' k a5 HL.out.1 c7 hk w;have c9:Hid (U/W<=y/\y<18446744073709551616):=⟨by rw[a4] at g;exact Nat.le_of_lt_succ g,by omega⟩;have HM:Hid (y<D):=by show y<D;omega
       have HK:Hid (k=0->y*x+l'=R*18446744073709551616+u1/\U/W<=y/\y<18446744073709551616/\l'<18446744073709551616):=by
        intro e8;refine⟨?_,c9.out.1,c9.out.2,by rw[c7];exact dO _⟩;have e:D*x=y*x+x:=by rw[a4,Nat.add_mul,Nat.one_mul]
        rw[e] at g3;have:l+x<18446744073709551616:=by omega
        rw[c7,Nat.mod_eq_of_lt this];omega
       clear d8 f2 g h0 a4 c7 hk i7 g3 f5;by_cases e8:k=0
       ·subst e8;have g8:=Lh (HK.out rfl);clear HK;by_cases b4:H=l
        ·subst b4;have i9:¬Lo<=u2:=fun h=>hB ⟨rfl,h⟩;clear hB a5 v;go_wp2_with (go_at_call 201;refine(eU D T H Lo HT.out.2.2.1 HL.out.2.1 HH.out b0.out _).mono ?_;rintro e w' ⟨rfl,rfl⟩)
         go_roundw
         case rel=>exact⟨y,l',rfl,rfl,g8,f⟩
         case measure=>have:=HM.out;simp[intOf];omega
        ·have e1:¬(H:Int)=(l:Int):=by omega
         clear hB a5 v;go_wp2_with (go_at_call 201;refine(eU D T H Lo HT.out.2.2.1 HL.out.2.1 HH.out b0.out _).mono ?_;rintro e w' ⟨rfl,rfl⟩)
         go_roundw
         case rel=>exact⟨y,l',rfl,rfl,g8,f⟩
         case measure=>have:=HM.out;simp[intOf];omega
       ·have e7:0<k:=by omega
        clear e8;by_cases b4:H=l
        ·subst b4;have i9:¬Lo<=u2:=fun h=>hB ⟨rfl,h⟩;clear hB a5 v;go_wp2_with (go_at_call 201;refine(eU D T H Lo HT.out.2.2.1 HL.out.2.1 HH.out b0.out _).mono ?_;rintro e w' ⟨rfl,rfl⟩)
         go_meet;exact⟨y,rfl,c9,f⟩
        ·have e1:¬(H:Int)=(l:Int):=by omega
         clear hB a5 v;go_wp2_with (go_at_call 201;refine(eU D T H Lo HT.out.2.2.1 HL.out.2.1 HH.out b0.out _).mono ?_;rintro e w' ⟨rfl,rfl⟩)
         go_meet;exact⟨y,rfl,c9,f⟩
  ·have j7:¬R<x:=g;go_wp2_with fail;go_meet;exact⟨18446744073709551615,rfl,⟨by have:=o.out.2.2.2.2.2.2.2.1;omega,by omega⟩,c8⟩
 case rest=>
  obtain⟨D,rfl,HD,d6⟩:=hcut;have f9:Hid (Blk wc u (rowW 17 U) 351):=b7.out.keep d6.out;have g6:Hid (Blk wc bv (rowW 16 V) 151):=f0.out.keep d6.out;have j4:Hid (Below u w wc):=d6.out.mono (Nat.le_of_lt b7.out.lt);clear d6 HC;go_wp2_with fail;go_loopw [11,12,91] (fun i6 e6 f3 C=>∃i A c bo:Nat,i<=n/\f3=.int .i64 (i:Int)/\i6=.int .u64 (c:Int)/\e6=.int .u64 (bo:Int)/\Hid (c<18446744073709551616/\bo<=1/\A+D*(V%2^(64*i))*2^(64*j)=U+(bo+c)*2^(64*(i+j))/\A<2^(64*(j+n+1)))/\Hid (Below u w C)/\Hid (Blk C u (rowW 17 A) 351)/\Hid (Blk C bv (rowW 16 V) 151)) (fun _ _ f3 _=>n-(intOf f3).toNat)
  case atStart=>
   exact⟨0,U,0,0,by omega,rfl,rfl,rfl,⟨by omega,by omega,by simp[Nat.mod_one],o.out.2.2.2.2.2.2.1⟩,j4,f9,g6⟩
  case round=>
   obtain⟨i,A,c,bo,hi,rfl,rfl,rfl,E,f,b,G⟩:=hrel;by_cases g:i<n
   ·have Q:=o.out.2.2.1;obtain⟨a,N⟩:∃a,a=wdn A (i+j):=⟨_,rfl⟩;obtain⟨vi,S⟩:∃vi,vi=wdn V i:=⟨_,rfl⟩;have la:a<18446744073709551616:=by rw[N];exact bB _ _
    have a9:vi<18446744073709551616:=by rw[S];exact bB _ _
    have e0:wr.cell? ⟨u,j+i,none⟩=some (.int .u64 (a:Int)):=by rw[N,Nat.add_comm i j];exact b.out.cell (aZ 17 A _ (by omega))
    have e1:wr.cell? ⟨bv,i,none⟩=some (.int .u64 (vi:Int)):=by rw[S];exact G.out.cell (aZ 16 V _ (by omega))
    have e2:wr.frozen? ⟨u,j+i,none⟩=false:=b.out.frozen _;obtain⟨H,Lo,lo,k1,B,hH,a3,v,g2,e7,K,b5,c5,e5⟩:=yg D vi c HD.out.2 a9 E.out.1;obtain⟨t,I,a0,a2,s,F⟩:=p9 a lo bo la c5 E.out.2.1;have b1:=fun w=>lE Lo c lo k1 v E.out.1 g2 e7 w;have b2:=fun w=>tP a lo bo t I la c5 E.out.2.1 a0 F w;have b3:=iy H k1 B K b5;have HM:=fun w=>Lh (eU D vi H Lo HD.out.2 a9 hH a3 w);have hinv:=Bh A D V U c bo i j t lo B I E.out.2.2.1 (by rw[<-S];exact e5) (by rw[<-N];exact F);have HN:Hid (B<18446744073709551616/\I<=1/\bZ A (i+j) t+D*(V%2^(64*(i+1)))*2^(64*j)=U+(I+B)*2^(64*(i+1+j))/\bZ A (i+j) t<2^(64*(j+n+1))):=⟨b5,a2,hinv,iV A (i+j) t (j+n+1) s (by omega) E.out.2.2.2⟩;have z:=Lh (cp 17 A (i+j) t s);have i1:(i:Int)<(n:Int):=by omega
    have i2:(i:Int)<(L:Int):=by omega
    have i3:i<=J:=by omega
    have i4:i<=O:=by omega
    have i5:(0:Int)<=(i:Int):=by omega
    have q1:i<L:=by omega
    clear N S la a9 hH a3 v g2 e7 K b5 c5 e5 a0 a2 s F hinv Q;go_wp2_with (go_at_call 201;refine(HM _).out.mono ?_;rintro e w' ⟨rfl,rfl⟩)
    refine⟨⟨i+1,bZ A (i+j) t,B,I,by omega,by go_num,rfl,rfl,HN,?_,?_,?_⟩,by simp[intOf];omega⟩
    ·exact f.out.setCell (by simp) _
    ·have h:=b.out.ab (j+i) (.int .u64 (t:Int));rw[Nat.add_comm j i,z.out] at h;rw[Nat.add_comm j i];exact h
    ·exact G.out.ac (by have:=c6.out;simp;omega) _
   ·have e9:n=i:=by omega
    subst e9;have Q:=o.out.2.2.1;obtain⟨a,N⟩:∃a,a=wdn A (n+j):=⟨_,rfl⟩;have la:a<18446744073709551616:=by rw[N];exact bB _ _
    have e0:wr.cell? ⟨u,j+n,none⟩=some (.int .u64 (a:Int)):=by rw[N,Nat.add_comm n j];exact b.out.cell (aZ 17 A _ (by omega))
    have e2:wr.frozen? ⟨u,j+n,none⟩=false:=b.out.frozen _;obtain⟨t,I,a0,a2,s,F⟩:=p9 a c bo la E.out.1 E.out.2.1;have b2:=fun w=>tP a c bo t I la E.out.1 E.out.2.1 a0 F w;have c3:V%2^(64*n)=V:=Nat.mod_eq_of_lt o.out.2.2.2.2.2.1;have hinv:=Bj A (D*(V%2^(64*n))*2^(64*j)) U c bo (n+j) t I E.out.2.2.1 (by rw[<-N];exact F);rw[c3,Nat.mul_assoc,<-o.out.2.2.2.1] at hinv;have HN:Hid (I<=1/\bZ A (n+j) t+D*W=U+I*2^(64*(n+j+1))/\bZ A (n+j) t<2^(64*(n+j+1))):=⟨a2,hinv,iV A (n+j) t (n+j+1) s (by omega) (by rw[show n+j+1=j+n+1 by omega];exact E.out.2.2.2)⟩;have z:=Lh (cp 17 A (n+j) t s);have i1:¬(n:Int)<(n:Int):=by omega
    clear N la a0 a2 s F hinv Q c3;go_wp2_with fail;go_loopw [6,12,17,18] (fun s6 e6 _ _ C=>∃D bo A:Nat,s6=.int .u64 (D:Int)/\e6=.int .u64 (bo:Int)/\Hid (bo<=1/\A+D*W=U+bo*2^(64*(n+j+1))/\A<2^(64*(n+j+1))/\U/W<=D/\D<18446744073709551616)/\Hid (Below u w C)/\Hid (Blk C u (rowW 17 A) 351)/\Hid (Blk C bv (rowW 16 V) 151)) (fun s6 _ _ _ _=>(intOf s6).toNat)
    case atStart=>
     refine⟨D,I,bZ A (n+j) t,rfl,rfl,⟨HN.out.1,HN.out.2.1,HN.out.2.2,HD.out.1,HD.out.2⟩,?_,?_,?_⟩
     ·exact f.out.setCell (by simp) _
     ·have h:=b.out.ab (j+n) (.int .u64 (t:Int));rw[Nat.add_comm j n,z.out] at h;rw[Nat.add_comm j n];exact h
     ·exact G.out.ac (by have:=c6.out;simp;omega) _
    case round=>
     clear E f b G HD e0 e2 b2 HN z;obtain⟨D,bo,A,rfl,rfl,E,f,b,G⟩:=hrel;by_cases f4:bo=0
     ·subst f4;have HE:=Lh (tD A D W U o.out.2.2.2.2.1 E.out.2.2.2.1 (by have:=E.out.2.1;rw[Nat.zero_mul,Nat.add_zero] at this;exact this));go_wp2_with fail;go_ret;exact⟨by rw[<-HE.out.1];rfl,f.out,by rw[<-HE.out.2];exact b.out⟩
     ·have j6:bo=1:=by have:=E.out.1;omega
      subst j6;rw[show((1:Nat):Int)=1 from rfl];have g:=vb A D W U _ E.out.2.2.1 o.out.2.2.2.2.1 E.out.2.1;have h8:=Nat.lt_of_le_of_lt (Nat.zero_le _) g;obtain⟨y,a4⟩:∃y,D=y+1:=⟨D-1,by omega⟩;have c4:Hid (U/W<=y/\y<18446744073709551616/\D=y+1):=⟨by rw[a4] at g;exact Nat.le_of_lt_succ g,by have:=E.out.2.2.2.2;omega,a4⟩;have b1:IntKind.u64.wrap ((D:Int)-1)=(y:Int):=by have:=E.out.2.2.2.2;rw[IntKind.wrap_u64];omega
      clear g h8 a4 f4;go_wp2_with fail;go_loopw [17,18,144] (fun j2 _ b8 C=>∃i M c:Nat,i<=n/\b8=.int .i64 (i:Int)/\j2=.int .u64 (c:Int)/\Hid (c<=1/\M+c*2^(64*(i+j))=A+V%2^(64*i)*2^(64*j)/\M<2^(64*(n+j+1)))/\Hid (Below u w C)/\Hid (Blk C u (rowW 17 M) 351)/\Hid (Blk C bv (rowW 16 V) 151)) (fun _ _ b8 _=>n-(intOf b8).toNat)
      case atStart=>exact⟨0,A,0,by omega,rfl,rfl,⟨by omega,by simp[Nat.mod_one],E.out.2.2.1⟩,f,b,G⟩
      case round=>
       clear f b G;obtain⟨i,M,c,hi,rfl,rfl,HJ,f,b,G⟩:=hrel;have Q:=o.out.2.2.1;by_cases g:i<n
       ·obtain⟨a,N⟩:∃a,a=wdn M (i+j):=⟨_,rfl⟩;obtain⟨vi,S⟩:∃vi,vi=wdn V i:=⟨_,rfl⟩;have la:a<18446744073709551616:=by rw[N];exact bB _ _
        have a9:vi<18446744073709551616:=by rw[S];exact bB _ _
        have e0:wr.cell? ⟨u,j+i,none⟩=some (.int .u64 (a:Int)):=by rw[N,Nat.add_comm i j];exact b.out.cell (aZ 17 M _ (by omega))
        have e1:wr.cell? ⟨bv,i,none⟩=some (.int .u64 (vi:Int)):=by rw[S];exact G.out.cell (aZ 16 V _ (by omega))
        have e2:wr.frozen? ⟨u,j+i,none⟩=false:=b.out.frozen _;obtain⟨t,ht⟩:∃t,t=(a+vi+c)%18446744073709551616:=⟨_,rfl⟩;obtain⟨B,K⟩:∃B,B=(a+vi+c)/18446744073709551616:=⟨_,rfl⟩;have b6:=HJ.out.1;have b2:=fun w=>uR a vi c t B la a9 b6 ht K w;have s:t<18446744073709551616:=by rw[ht];exact dO _
        have Z:t+B*18446744073709551616=a+vi+c:=by rw[ht,K,Nat.add_comm];exact iz _
        have hinv:=Co M A V c i j t B HJ.out.2.1 (by rw[<-N,<-S];exact Z);have HN:Hid (B<=1/\bZ M (i+j) t+B*2^(64*(i+1+j))=A+V%2^(64*(i+1))*2^(64*j)/\bZ M (i+j) t<2^(64*(n+j+1))):=⟨by omega,hinv,iV M (i+j) t (n+j+1) s (by omega) HJ.out.2.2⟩;have z:=Lh (cp 17 M (i+j) t s);have i1:(i:Int)<(n:Int):=by omega
        have i2:(i:Int)<(L:Int):=by omega
        have i3:i<=J:=by omega
        have i4:i<=O:=by omega
        have i5:(0:Int)<=(i:Int):=by omega
        clear N S la a9 ht K b6 s Z hinv Q;go_wp2_with fail;go_region
        go_wp2_with fail;refine⟨⟨i+1,bZ M (i+j) t,B,by omega,by go_num,rfl,HN,?_,?_,?_⟩,by simp[intOf];omega⟩
        ·exact(f.out.drew).setCell (by simp) _
        ·have h:=(b.out.drew).ab (j+i) (.int .u64 (t:Int));rw[Nat.add_comm j i,z.out] at h;rw[Nat.add_comm j i];exact h
        ·exact(G.out.drew).ac (by have:=c6.out;simp;omega) _
       ·have e9:n=i:=by omega
        subst e9;obtain⟨a,N⟩:∃a,a=wdn M (n+j):=⟨_,rfl⟩;have la:a<18446744073709551616:=by rw[N];exact bB _ _
        have e0:wr.cell? ⟨u,j+n,none⟩=some (.int .u64 (a:Int)):=by rw[N,Nat.add_comm n j];exact b.out.cell (aZ 17 M _ (by omega))
        have e2:wr.frozen? ⟨u,j+n,none⟩=false:=b.out.frozen _;obtain⟨t,ht⟩:∃t,t=(a+0+c)%18446744073709551616:=⟨_,rfl⟩;obtain⟨B,K⟩:∃B,B=(a+0+c)/18446744073709551616:=⟨_,rfl⟩;have b6:=HJ.out.1;have b2:∀w,(callFunc 202 #[.int .u64 (a:Int),.int .u64 0,.int .u64 (c:Int)]).run prog w=.ok (.value (.tuple #[.int .u64 (t:Int),.int .u64 (B:Int)])) w:=fun w=>uR a 0 c t B la (by omega) b6 ht K w;have s:t<18446744073709551616:=by rw[ht];exact dO _
        have Z:t+B*18446744073709551616=a+0+c:=by rw[ht,K,Nat.add_comm];exact iz _
        have c3:V%2^(64*n)=V:=Nat.mod_eq_of_lt o.out.2.2.2.2.2.1;have h2:=HJ.out.2.1;rw[c3,<-o.out.2.2.2.1] at h2;have hinv:=Cv M (A+W) c (n+j) t B h2 (by rw[<-N];exact Z);have b5:B<=1:=by omega
        have X:=Cn A (bZ M (n+j) t) D W U 1 B (2^(64*(n+j+1))) (by have:=c4.out.2.2;omega) E.out.2.1 hinv b5;rw[show D-1=y by have:=c4.out.2.2;omega] at X;obtain⟨a8,e3⟩:∃a8,a8=1-B:=⟨_,rfl⟩;rw[<-e3] at X;have b3:IntKind.u64.wrap (1-(B:Int))=(a8:Int):=by rw[IntKind.wrap_u64];omega
        have HN:Hid (a8<=1/\bZ M (n+j) t+y*W=U+a8*2^(64*(n+j+1))/\bZ M (n+j) t<2^(64*(n+j+1))/\U/W<=y/\y<18446744073709551616):=⟨by omega,X,iV M (n+j) t (n+j+1) s (by omega) HJ.out.2.2,c4.out.1,c4.out.2.1⟩;have z:=Lh (cp 17 M (n+j) t s);have i1:¬(n:Int)<(n:Int):=by omega
        clear N la ht K b6 s Z hinv Q c3 h2 b5 X e3;go_wp2_with fail;refine⟨⟨y,a8,bZ M (n+j) t,rfl,rfl,HN,?_,?_,?_⟩,by have:=c4.out.2.2;simp[intOf];omega⟩
        ·exact f.out.setCell (by simp) _
        ·have h:=b.out.ab (j+n) (.int .u64 (t:Int));rw[Nat.add_comm j n,z.out] at h;rw[Nat.add_comm j n];exact h
        ·exact G.out.ac (by have:=c6.out;simp;omega) _
@[go_sem] theorem put?_putRow_other{w : World}(g o : Nat)(d : Array Value)(b c : Nat)(a : Array Value)(h : b≠g)(e : w.fits b (c + a.size)=true)(f : ones a=true):(w.putRow g o d).put? b c a=some ((w.putRow g o d).putRow b c a):=
 put?_fits (by rw[gz _ _ _ _ _ h];exact e) f
theorem fl{P:Program}{x:Func}{R:Ending->World->Prop}{a:Act}{w:World}{p u:Tmp}{e c:TypeId}{g i:Nat}(n l:Nat)(f b:Array Value){d j:TypeDesc}(h:x.results=#[.cell p e,.cell u c])(m:a.defers=[])(D:a.tmps.getD p undef=.pointer (some ⟨g,0,none⟩))(s:a.tmps.getD u undef=.pointer (some ⟨i,0,none⟩))(G:P.underlying e=some d)(A:d.isRow=true)(B:(P.info? e).map (·.size)=some n)(q:P.underlying c=some j)(k:j.isRow=true)(r:(P.info? c).map (·.size)=some l)(z:w.row? g 0 n=some f)(o:w.row? i 0 l=some b)(E:R (.returned (.tuple #[.agg f,.agg b])) w):bodyPost P x R .ret a w:=by
 refine bodyPost_ret (v:=.tuple #[.agg f,.agg b]) ?_ m E;have y:=run_loadVar_row? (P:=P) w g 0 n e f d G A B z;have C:=run_loadVar_row? (P:=P) w i 0 l c b j q k r o;have F:a.tmps[p]?.getD undef=.pointer (some ⟨g,0,none⟩):=by simpa using D
 have t:a.tmps[u]?.getD undef=.pointer (some ⟨i,0,none⟩):=by simpa using s
 simp[results,h,F,t,asAddr,y,C]
theorem ww(N M:Nat)(w:World)(j:N<W16)(i:M<W16)(b:N<M):zR 204 #[.agg (rowW 16 N),.agg (rowW 16 M)] w (.tuple #[.agg (rowW 16 (N/M)),.agg (rowW 16 (N%M))]):=by
 have m:=Lh j;have k:=Lh i;have l:eE N M=-1:=by unfold eE;rw[if_pos b]
 rw[Nat.div_eq_of_lt b,Nat.mod_eq_of_lt b];clear j i b;go_enter func204,ntmps204;go_wp2_with fail;refine(kD _ _ _ _ N M _ m.out k.out (.bT ((((((Blk.new _ _ _).alloc _).alloc _).alloc _).alloc _).alloc _)) (.bT (((((Blk.new' _ _ _ (by simp)).alloc _).alloc _).alloc _).alloc _))).mono ?_;rintro e n ⟨rfl,a⟩;rw[l];have c:=a.size;(try simp at c);have d:=bq3 a (w.heap.size);have f:=bq a (w.heap.size+1+1+1);have h:=bq a (w.heap.size+1+1+1+1);have g:=bq a (w.heap.size+1+1+1+1+1);go_wp2_with fail;go_region
 all_goals go_wp2_with fail
 all_goals exact fl 16 16 (rowW 16 0) (rowW 16 N) rfl rfl rfl rfl underlying151 rfl aO underlying151 rfl aO (by go_simp) (by go_simp) ⟨rfl,ae⟩
theorem pK{N M:Nat}(h:M<=N):(0:Int)<=eE N M:=by unfold eE;split<;>(try split)<;>omega
theorem Blk.fits{w:World}{b:Nat}{c:Array Value}{t:TypeId}(h:Blk w b c t)(n:Nat)(a:n<=c.size):w.fits b n=true:=by
 unfold World.fits;unfold Blk at h;rw[h];simp[a]
theorem tz(N M:Nat)(w:World)(V:N<W16)(hM:M<W16)(C:M<=N)(D:M≠0)(g:M<18446744073709551616):zR 204 #[.agg (rowW 16 N),.agg (rowW 16 M)] w (.tuple #[.agg (rowW 16 (N/M)),.agg (rowW 16 (N%M))]):=by
 have HN:=Lh V;have HM:=Lh hM;have hc:=pK C;have a4:decide (eE N M<0)=false:=decide_eq_false (by omega);have a2:np M=1:=nQ M 1 g (.inr (by rw[show 64*(1-1)=0 from rfl,Nat.pow_zero];omega));obtain⟨n,H⟩:∃n,n=np N:=⟨_,rfl⟩;have a3:n<=16:=by rw[H];exact(bX _ _).2 (LtW.of16 V)
 have U:Hid (N<2^(64*n)):=by show N<_;rw[H];exact kn N
 have S:Hid (wdn M 0=M):=by show wdn M 0=M;unfold wdn;simpa using g
 have u:Hid (0<M/\M<18446744073709551616):=⟨Nat.pos_of_ne_zero D,g⟩;have T:=Lh H;clear V hM C D g H;go_enter func204,ntmps204;go_wp2_with fail;refine(kD _ _ _ _ N M _ HN.out HM.out (.bT ((((((Blk.new _ _ _).alloc _).alloc _).alloc _).alloc _).alloc _)) (.bT (((((Blk.new' _ _ _ (by simp)).alloc _).alloc _).alloc _).alloc _))).mono ?_;rintro e o ⟨rfl,c⟩;have v:Hid (Blk o w.heap.size (rowW 16 N) 151):=Blk.keep ((((((Blk.new _ _ _).alloc _).alloc _).alloc _).alloc _).alloc _) c;have p:Hid (Blk o (w.heap.size+1) (rowW 16 M) 151):=Blk.keep (((((Blk.new' _ _ _ (by simp)).alloc _).alloc _).alloc _).alloc _) c;have t:Hid (Blk o (w.heap.size+1+1) (rowW 16 0) 151):=Blk.keep ((((Blk.new' _ _ _ (by simp)).alloc _).alloc _).alloc _) c;have z:Hid (Blk o (w.heap.size+1+1+1) (rowW 16 0) 151):=Blk.keep (((Blk.new' _ _ _ (by simp)).alloc _).alloc _) c;have f:Hid (Blk o (w.heap.size+1+1+1+1) (rowW 16 0) 151):=Blk.keep ((Blk.new' _ _ _ (by simp)).alloc _) c;have d:Hid (zB w o):=ae;clear c;go_wp2_with fail;refine(eT _ _ N _ HN.out (.bT v.out)).mono ?_;rintro e J ⟨rfl,rfl⟩;rw[<-T.out];go_wp2_with fail;refine(eT _ _ M _ HM.out (.bT p.out)).mono ?_;rintro e J ⟨rfl,rfl⟩;rw[a2];go_wp2_with fail;go_loopw [10,11] (fun a0 j s=>∃k:Nat,k<=n/\j=.int .i64 ((k:Int)-1)/\a0=.int .u64 ((N/2^(64*k)%M:Nat):Int)/\Hid (zB w s)/\Hid (Blk s (w.heap.size+1+1+1+1) (rowW 16 (N/2^(64*k)/M*2^(64*k))) 151)/\Hid (Blk s w.heap.size (rowW 16 N) 151)/\Hid (Blk s (w.heap.size+1) (rowW 16 M) 151)/\Hid (Blk s (w.heap.size+1+1) (rowW 16 0) 151)/\Hid (Blk s (w.heap.size+1+1+1) (rowW 16 0) 151)) (fun _ j _=>(intOf j+1).toNat)
 case atStart=>
  have h0:N/2^(64*n)=0:=Nat.div_eq_of_lt U.out;refine⟨n,by omega,rfl,by rw[h0,Nat.zero_mod];rfl,d,?_,v,p,t,z⟩;rw[h0,Nat.zero_div,Nat.zero_mul];exact f
 case round=>
  clear v p t z f d;obtain⟨k,hk,rfl,rfl,d,f,v,p,t,z⟩:=hrel;rcases k with _|i
  ·have O:N/2^(64*0)=N:=by rw[Nat.mul_zero,Nat.pow_zero,Nat.div_one]
   have R:N/2^(64*0)/M*2^(64*0)=N/M:=by rw[O,Nat.mul_zero,Nat.pow_zero,Nat.mul_one]
   rw[R] at f;rw[O];obtain⟨r,l⟩:∃r,r=N%M:=⟨_,rfl⟩;rw[<-l]
   have E:r<18446744073709551616:=by
    have:=Nat.mod_lt N u.out.1;have:=u.out.2;omega
   have hs:=kT r E;have X:=Lh l;have Z:((0:Nat):Int)-1=-1:=rfl;rw[Z];have Y:=f.out.lt;have y0:w.heap.size<wr.heap.size:=by omega
   have y1:w.heap.size+1<wr.heap.size:=by omega
   have y2:w.heap.size+1+1<wr.heap.size:=by omega
   have y3:w.heap.size+1+1+1<wr.heap.size:=by omega
   have r4:=f.out.row?_all 16 (by simp);have f2:=t.out.fits 16 (by simp);have f3:=z.out.fits 16 (by simp);have p2:=t.out.put? 0 (rowW 16 (N/M)) (by simp) (by simp);clear l E O R Y;go_wp2_with fail;exact fl 16 16 (rowW 16 (N/M)) (rowW 16 r) rfl rfl rfl rfl underlying151 rfl aO underlying151 rfl aO (by go_simp) (by go_simp) ⟨by rw[X.out],ae⟩
  ·obtain⟨x,P⟩:∃x,x=N/2^(64*(i+1))%M:=⟨_,rfl⟩;obtain⟨y,L⟩:∃y,y=wdn N i:=⟨_,rfl⟩;obtain⟨q,K⟩:∃q,q=(x*18446744073709551616+y)/M:=⟨_,rfl⟩;obtain⟨r,l⟩:∃r,r=(x*18446744073709551616+y)%M:=⟨_,rfl⟩;rw[<-P];have m:x<M:=by rw[P];exact Nat.mod_lt _ u.out.1
   have F:y<18446744073709551616:=by rw[L];exact bB _ _
   have G:q<18446744073709551616:=by
    rw[K,Nat.div_lt_iff_lt_mul u.out.1];have:=Nat.mul_le_mul_right 18446744073709551616 (show x+1<=M from m);rw[Nat.add_mul,Nat.mul_comm M] at this;omega
   have Q:=vG N M i u.out.1;rw[<-P,<-L,<-K,<-l] at Q
   have HS:Hid (bZ (N/2^(64*(i+1))/M*2^(64*(i+1))) i q=N/2^(64*i)/M*2^(64*i)):=by
    show _=_;rw[mc,<-Q.1,Nat.add_comm q]
   have A:=Lh (cp 16 (N/2^(64*(i+1))/M*2^(64*(i+1))) i q G);have HR:Hid (r=N/2^(64*i)%M):=Q.2;have b:Hid (x<M/\y<18446744073709551616/\q=(x*18446744073709551616+y)/M/\r=(x*18446744073709551616+y)%M):=⟨m,F,K,l⟩;have O:wr.cell? ⟨w.heap.size,i,none⟩=some (.int .u64 (y:Int)):=by rw[L];exact v.out.cell (aZ 16 N _ (by omega))
   have R:wr.cell? ⟨w.heap.size+1,0,none⟩=some (.int .u64 (M:Int)):=by
    have:=p.out.cell (aZ 16 M 0 (by omega));rw[S.out] at this;exact this
   have e2:wr.frozen? ⟨w.heap.size+1+1+1+1,i,none⟩=false:=f.out.frozen _;have e3:wr.cell? ⟨w.heap.size+1+1+1+1,i,none⟩=some (.int .u64 ((wdn (N/2^(64*(i+1))/M*2^(64*(i+1))) i:Nat):Int)):=f.out.cell (aZ 16 _ _ (by omega));have Z:((i+1:Nat):Int)-1=(i:Int):=by omega
   have k1:(0:Int)<=(i:Int):=by omega
   have k2:(i:Int)<16:=by omega
   have Y:=f.out.lt;have y0:w.heap.size<wr.heap.size:=by omega
   have y1:w.heap.size+1<wr.heap.size:=by omega
   have y2:w.heap.size+1+1<wr.heap.size:=by omega
   have y3:w.heap.size+1+1+1<wr.heap.size:=by omega
   have y4:w.heap.size+1+1+1+1<wr.heap.size:=by omega
   rw[Z];clear P L K l m F G Q Y;go_wp2_with fail
   go_region_held3 (fun J=>J.cell? ⟨w.heap.size,i,none⟩=some (.int .u64 (y:Int))/\J.cell? ⟨w.heap.size+1,0,none⟩=some (.int .u64 (M:Int))) (go_simp)
    (first
     | (go_at_call 264;refine(uI x y M q r _ b.out.1 u.out.2 b.out.2.1 b.out.2.2.1 b.out.2.2.2).mono ?_;rintro e w2 ⟨rfl,a⟩;have B:=a.size;(try simp at B);have I:=bq3 a (w.heap.size);have a1:=bq a (w.heap.size+1+1+1);have W:=bq a (w.heap.size+1+1+1+1)))
   go_wp2_with fail;refine⟨⟨i,by omega,rfl,by rw[<-HR.out],?_,?_,?_,?_,?_,?_⟩,(by first|(simp[intOf];done)|(simp[intOf];omega))⟩
   ·exact((d.out.drew).trans (a.mono d.out.size)).setCell (by simp;omega) _
   ·have h:=(f.out.drew.keep a).ab i (.int .u64 (q:Int));rw[A.out,HS.out] at h;exact h
   ·exact(v.out.drew.keep a).ac (by first|omega|(simp;done)|(simp;omega)|fail) _
   ·exact(p.out.drew.keep a).ac (by first|omega|(simp;done)|(simp;omega)|fail) _
   ·exact(t.out.drew.keep a).ac (by first|omega|(simp;done)|(simp;omega)|fail) _
   ·exact(z.out.drew.keep a).ac (by first|omega|(simp;done)|(simp;omega)|fail) _
theorem BB(N i s:Nat):N%2^(64*i)*2^s/2^(64*i)<2^s:=by
 rw[Nat.div_lt_iff_lt_mul (Nat.two_pow_pos _),Nat.mul_comm];exact Nat.mul_lt_mul_of_pos_left (Nat.mod_lt _ (Nat.two_pow_pos _)) (Nat.two_pow_pos _)
theorem uz(N i s:Nat)(e:s<=64):(wdn (N%2^(64*i)*2^s) i|||(wdn N i*2^s%18446744073709551616))=wdn (N%2^(64*i)*2^s) i+wdn N i*2^s%18446744073709551616/\
  wdn (N%2^(64*i)*2^s) i+wdn N i*2^s%18446744073709551616<18446744073709551616/\N%2^(64*i)*2^s/2^(64*i)+wdn N i*2^s%18446744073709551616<18446744073709551616:=by
 have a:(18446744073709551616:Nat)=2^(64-s)*2^s:=by rw[<-Nat.pow_add,show(64-s)+s=64 by omega]
 have d:=BB N i s;have b:wdn (N%2^(64*i)*2^s) i<=N%2^(64*i)*2^s/2^(64*i):=Nat.mod_le _ _
 have c:wdn N i*2^s%18446744073709551616=(wdn N i%2^(64-s))*2^s:=by
  rw[a,Nat.mul_mod_mul_right]
 have f:(wdn N i%2^(64-s))*2^s+2^s<=18446744073709551616:=by
  have:=Nat.mod_lt (wdn N i) (Nat.two_pow_pos (64-s))
  calc (wdn N i%2^(64-s))*2^s+2^s=(wdn N i%2^(64-s)+1)*2^s:=by rw[Nat.add_mul,Nat.one_mul]
   _<=2^(64-s)*2^s:=Nat.mul_le_mul_right _ this
   _=18446744073709551616:=a.symm
 rw[c];refine⟨?_,by omega,by omega⟩;rw[Nat.or_comm,fz _ _ _ (Nat.lt_of_le_of_lt b d),Nat.add_comm]
theorem D8(N i s v:Nat)(a:v=wdn (N%2^(64*i)*2^s) i+wdn N i*2^s%18446744073709551616):bZ (N%2^(64*i)*2^s) i v=N%2^(64*i)*2^s+wdn N i*2^s%18446744073709551616*2^(64*i):=fZ _ _ _ _ a.symm
theorem yD(a b c P B:Nat):c+b*P+a*(P*B)=c+(B*a+b)*P:=by grind
theorem D7(N i s:Nat)(b:s<=64):bZ (N%2^(64*i)*2^s+wdn N i*2^s%18446744073709551616*2^(64*i)) (i+1) (wdn N i/2^(64-s))=N%2^(64*(i+1))*2^s:=by
 have g:=(uz N i s b).2.2
 have j:N%2^(64*i)*2^s+wdn N i*2^s%18446744073709551616*2^(64*i)<2^(64*(i+1)):=by
  rw[bz,Nat.mul_comm (2^(64*i)) 18446744073709551616,<-Nat.div_lt_iff_lt_mul (Nat.two_pow_pos _),Nat.add_mul_div_right _ _ (Nat.two_pow_pos _)];exact g
 have c:wdn (N%2^(64*i)*2^s+wdn N i*2^s%18446744073709551616*2^(64*i)) (i+1)+wdn N i/2^(64-s)=wdn N i/2^(64-s):=by
  rw[co _ (i+1) (i+1) j (Nat.le_refl _),Nat.zero_add]
 rw[fZ _ _ _ _ c,cj N i,Nat.add_mul,bz];have d:(18446744073709551616:Nat)=2^s*2^(64-s):=by rw[<-Nat.pow_add,show s+(64-s)=64 by omega]
 have e:wdn N i*2^s/18446744073709551616=wdn N i/2^(64-s):=by
  conv=>lhs;rw[d]
  rw[Nat.mul_comm (wdn N i),Nat.mul_div_mul_left _ _ (Nat.two_pow_pos _)]
 have a:=Nat.div_add_mod (wdn N i*2^s) 18446744073709551616;rw[e] at a;have h:2^(64*i)*wdn N i*2^s=(wdn N i*2^s)*2^(64*i):=by rw[Nat.mul_comm (2^(64*i)),Nat.mul_right_comm]
 have f:wdn N i*2^s*2^(64*i)=(18446744073709551616*(wdn N i/2^(64-s))+wdn N i*2^s%18446744073709551616)*2^(64*i):=by rw[a]
 rw[h,f];exact yD _ _ _ _ _
theorem BA(N i s:Nat)(a:s=0):N%2^(64*i)*2^s+wdn N i*2^s%18446744073709551616*2^(64*i)=N%2^(64*(i+1))*2^s:=by
 subst a;rw[Nat.pow_zero,Nat.mul_one,Nat.mul_one,Nat.mul_one,Nat.mod_eq_of_lt (bB N i),cj,Nat.mul_comm (wdn N i)]
theorem qn:rowW 17 0=#[.int .u64 0,.int .u64 0,.int .u64 0,.int .u64 0,.int .u64 0,.int .u64 0,.int .u64 0,.int .u64 0,.int .u64 0,.int .u64 0,.int .u64 0,.int .u64 0,.int .u64 0,.int .u64 0,.int .u64 0,.int .u64 0,.int .u64 0]:=by
 simp[rowW,Array.ofFn_succ,oK]
@[go_sem ↓] theorem Gh(w : World):(zeroValue 351).run prog w=.ok (.agg (rowW 17 0)) w:=by
  rw[qn];exact zeroValue351 w
theorem tA(N M n m:Nat)(w:World)(hN:N<W16)(hM:M<W16)(b2:M<=N)(hn:n=np M)(hm:m=np N)(c6:2<=n):zR 204 #[.agg (rowW 16 N),.agg (rowW 16 M)] w (.tuple #[.agg (rowW 16 (N/M)),.agg (rowW 16 (N%M))]):=by
 have HN:=Lh hN;have HM:=Lh hM;have hc:=pK b2;have g4:decide (eE N M<0)=false:=decide_eq_false (by omega);have a1:m<=16:=by rw[hm];exact(bX _ _).2 (LtW.of16 hN)
 have H:n<=m:=by rw[hn,hm];exact(bX _ _).2 (Nat.lt_of_le_of_lt b2 (kn N))
 have b4:M≠0:=fun h=>by rw[h] at hn;have:np 0=0:=rfl;omega
 obtain⟨p,hp⟩:∃p,n=p+1:=⟨n-1,by omega⟩;obtain⟨y,hy⟩:∃y,y=wdn M p:=⟨_,rfl⟩;have a7:M<2^(64*n):=by rw[hn];exact kn M
 have S:2^(64*(n-1))<=M:=by rw[hn];exact su M b4
 have b1:y≠0:=by
  rw[hy];intro h;have:=cg M p (by rw[<-hp];exact a7) h;rw[show n-1=p by omega] at S;omega
 have b5:y<18446744073709551616:=by rw[hy];exact bB _ _
 obtain⟨s,hs⟩:∃s,s=64-bl y:=⟨_,rfl⟩;obtain⟨nb,nl,ng⟩:=nR y b1 b5;rw[<-hs] at nl ng;have e7:=iL y b1;have a3:s<64:=by omega
 obtain⟨V,hV⟩:∃V,V=M*2^s:=⟨_,rfl⟩;obtain⟨A,hA⟩:∃A,A=N*2^s:=⟨_,rfl⟩
 -- the divisor shifted: as many words, the highest not 0
 have a2:=oI M p (by rw[<-hp];exact a7)
 have X:V<2^(64*n):=by
  rw[hV,hp,bz]
  have h1:M<2^(64*p)*(y+1):=by
   rw[hy,a2,Nat.mul_comm,<-Nat.div_lt_iff_lt_mul (Nat.two_pow_pos _)];omega
  have h2:(y+1)*2^s<=18446744073709551616:=by
   have e3:(18446744073709551616:Nat)=2^(64-s)*2^s:=by rw[<-Nat.pow_add,show(64-s)+s=64 by omega]
   rw[e3];refine Nat.mul_le_mul_right _ ?_;have:=mU y;rw[show 64-s=bl y by omega];omega
  calc M*2^s<2^(64*p)*(y+1)*2^s:=Nat.mul_lt_mul_of_pos_right h1 (Nat.two_pow_pos _)
   _=2^(64*p)*((y+1)*2^s):=Nat.mul_assoc _ _ _
   _<=2^(64*p)*18446744073709551616:=Nat.mul_le_mul_left _ h2
 have c8:wdn V (n-1)≠0:=by
  intro h;have h1:=cg V (n-1) (by rw[show n-1+1=n by omega];exact X) h;have h2:2^(64*(n-1))*1<=M*2^s:=Nat.mul_le_mul S (Nat.two_pow_pos s);rw[<-hV] at h2;omega
 have G:0<V:=by rw[hV];exact Nat.mul_pos (Nat.pos_of_ne_zero b4) (Nat.two_pow_pos _)
 have b9:N<2^(64*m):=by rw[hm];exact kn N
 have D:A<V*2^(64*(m-n+1)):=by rw[hA,hV];exact Bc N M m n s b9 S (by omega) H
 have a5:A/V=N/M:=by rw[hA,hV];exact jN N M s
 have a4:A%V/2^s=N%M:=by rw[hA,hV];exact jE N M s
 have c7:V<W16:=by
  have:∀k,k=16->V<2^(64*k):=fun k hk=>Nat.lt_of_lt_of_le X (dL _ _ (by omega));have h:=this 16 rfl;rwa [<-jS 16 rfl] at h
 have b:Hid (n=p+1/\y=wdn M p/\y<18446744073709551616/\s=64-bl y/\s<64/\V=M*2^s/\A=N*2^s/\V<2^(64*n)/\wdn V (n-1)≠0/\0<V/\A<V*2^(64*(m-n+1))/\A/V=N/M/\A%V/2^s=N%M/\V<W16/\n<=m/\m<=16/\2<=n):=
  ⟨hp,hy,b5,hs,a3,hV,hA,X,c8,G,D,a5,a4,c7,H,a1,c6⟩
 have d5:=Lh hn;have d3:=Lh hm;have z1:(n:Int)<=16:=by omega
 have z2:(m:Int)<=16:=by omega
 have z3:(n:Int)<=(m:Int):=by omega
 have z4:(p:Int)<16:=by omega
 have z5:(0:Int)<=(p:Int):=by omega
 have z6:¬(n:Int)=1:=by omega
 have z7:(n:Int)-1=(p:Int):=by omega
 have z8:((n:Int)==1)=false:=by simp;omega
 have z9:(s:Int)<64:=by omega
 clear hN hM b2 hn hm hp hy b5 hs a3 nb nl ng e7 hV hA a2 X c8 G D a5 a4 c7 H a1 c6 b4 a7 S b1 b9;go_enter func204,ntmps204;go_wp2_with fail;refine(kD _ _ _ _ N M _ HN.out HM.out (.bT ((((((Blk.new _ _ _).alloc _).alloc _).alloc _).alloc _).alloc _)) (.bT (((((Blk.new' _ _ _ (by simp)).alloc _).alloc _).alloc _).alloc _))).mono ?_;rintro e Y ⟨rfl,C⟩;have Q0:Hid (Blk Y w.heap.size (rowW 16 N) 151):=Blk.keep ((((((Blk.new _ _ _).alloc _).alloc _).alloc _).alloc _).alloc _) C;have Q1:Hid (Blk Y (w.heap.size+1) (rowW 16 M) 151):=Blk.keep (((((Blk.new' _ _ _ (by simp)).alloc _).alloc _).alloc _).alloc _) C;have P:Hid (Blk Y (w.heap.size+1+1) (rowW 16 0) 151):=Blk.keep ((((Blk.new' _ _ _ (by simp)).alloc _).alloc _).alloc _) C;have J:Hid (Blk Y (w.heap.size+1+1+1) (rowW 16 0) 151):=Blk.keep (((Blk.new' _ _ _ (by simp)).alloc _).alloc _) C;have r:Hid (Blk Y (w.heap.size+1+1+1+1) (rowW 16 0) 151):=Blk.keep ((Blk.new' _ _ _ (by simp)).alloc _) C;have I:Hid (Blk Y (w.heap.size+1+1+1+1+1) (rowW 16 0) 151):=Blk.keep (Blk.new' _ _ _ (by simp)) C;have f:Hid (zB w Y):=ae;clear C;have e0:Y.cell? ⟨w.heap.size+1,p,none⟩=some (.int .u64 (y:Int)):=by rw[b.out.2.1];exact Q1.out.cell (aZ 16 M _ (by omega))
 go_wp2_with fail;refine(eT _ _ N _ HN.out (.bT Q0.out)).mono ?_;rintro e w' ⟨rfl,rfl⟩;rw[<-d3.out];go_wp2_with fail;refine(eT _ _ M _ HM.out (.bT Q1.out)).mono ?_;rintro e w' ⟨rfl,rfl⟩;rw[<-d5.out];go_wp2_with fail;refine(yk y s _ b.out.2.2.1 b.out.2.2.2.1).mono ?_;rintro e w' ⟨rfl,rfl⟩;go_wp2_with fail;refine(E9 _ _ M s _ (by have:=b.out.2.2.2.2.1;omega) (.bT Q1.out)).mono ?_;rintro e w2 ⟨rfl,B⟩;rw[<-b.out.2.2.2.2.2.1];replace Q0:=Lh (Q0.out.keep B);replace P:=Lh (P.out.keep B);replace J:=Lh (J.out.keep B);replace r:=Lh (r.out.keep B);replace I:=Lh (I.out.keep B);replace f:=Lh (f.out.trans (B.mono f.out.size));have d1:=I.out.lt;clear B e0 Q1;go_upto_region 15 with fail
 obtain⟨g,hg⟩:∃g,g=w2.heap.size:=⟨_,rfl⟩;have QV:Hid (Blk ((w2.alloc (.cells (rowW 16 V) 151)).alloc (.cells (rowW 17 0) 351)) g (rowW 16 V) 151):=by rw[hg];exact(Blk.new _ _ _).alloc _
 have QU:Hid (Blk ((w2.alloc (.cells (rowW 16 V) 151)).alloc (.cells (rowW 17 0) 351)) (g+1) (rowW 17 0) 351):=by rw[hg];exact Blk.new' _ _ _ (by simp)
 replace Q0:=Lh ((Q0.out.alloc (.cells (rowW 16 V) 151)).alloc (.cells (rowW 17 0) 351));replace P:=Lh ((P.out.alloc (.cells (rowW 16 V) 151)).alloc (.cells (rowW 17 0) 351));replace J:=Lh ((J.out.alloc (.cells (rowW 16 V) 151)).alloc (.cells (rowW 17 0) 351));replace r:=Lh ((r.out.alloc (.cells (rowW 16 V) 151)).alloc (.cells (rowW 17 0) 351));replace I:=Lh ((I.out.alloc (.cells (rowW 16 V) 151)).alloc (.cells (rowW 17 0) 351));replace f:=Lh ((f.out.alloc f.out.size (.cells (rowW 16 V) 151)).alloc (by have:=f.out.size;simp;omega) (.cells (rowW 17 0) 351));rw[<-hg] at d1;have f9:w.heap.size<=g:=by omega
 simp only[<-hg];generalize (w2.alloc (.cells (rowW 16 V) 151)).alloc (.cells (rowW 17 0) 351)=w3 at *;clear hg;have hs:s<64:=b.out.2.2.2.2.1;go_wp2_with fail;go_loopw [15,53] (fun _ a6 Q=>∃i:Nat,i<=16/\a6=.int .i64 (i:Int)/\Hid (Below (g+1) w3 Q)/\Hid (Blk Q (g+1) (rowW 17 (N%2^(64*i)*2^s)) 351)) (fun _ a6 _=>16-(intOf a6).toNat)
 case atStart=>
  refine⟨0,by omega,rfl,Below.refl _ _,?_⟩;have:N%2^(64*0)*2^s=0:=by simp[Nat.mod_one]
  rw[this];exact QU
 case round=>
  obtain⟨i,hi,rfl,o,l⟩:=hrel;by_cases d9:i<16
  ·obtain⟨x,hx⟩:∃x,x=N%2^(64*i)*2^s:=⟨_,rfl⟩;obtain⟨t,ht⟩:∃t,t=wdn x i:=⟨_,rfl⟩;obtain⟨a,ha⟩:∃a,a=wdn N i:=⟨_,rfl⟩;obtain⟨v1,z⟩:∃v1,v1=a*2^s%18446744073709551616:=⟨_,rfl⟩;obtain⟨v,T⟩:∃v,v=t|||v1:=⟨_,rfl⟩
   obtain⟨v2,W⟩:∃v2,v2=a/2^(64-s):=⟨_,rfl⟩;have al:a<18446744073709551616:=by rw[ha];exact bB _ _
   have tl:t<18446744073709551616:=by rw[ht];exact bB _ _
   have d0:v1<18446744073709551616:=by rw[z];exact dO _
   have b7:v2<18446744073709551616:=by rw[W];exact Nat.lt_of_le_of_lt (Nat.div_le_self _ _) al
   have fo:=uz N i s (by omega);rw[<-hx,<-ha,<-ht,<-z,<-T] at fo;rw[<-hx] at l;have f1:=D8 N i s v (by rw[<-hx,<-ha,<-ht,<-z];exact fo.1);have f2:=D7 N i s (by omega);have f0:=fun h=>BA N i s h;rw[<-hx,<-ha,<-z] at f1 f2;rw[<-W] at f2;simp only[<-hx,<-ha,<-z] at f0;have vl:v<18446744073709551616:=by rw[fo.1];exact fo.2.1
   have s1:IntKind.u64.wrap ((a:Int)*2^s)=(v1:Int):=by rw[z];exact fI _ _
   have s2:bits .or .u64 (t:Int) (v1:Int)=(v:Int):=by rw[T];exact bits_or_u64_nat _ _ tl d0
   have s3:(a:Int)/2^(64-s)=(v2:Int):=by rw[W];exact oS _ _ _ rfl
   have S1:=Lh (cp 17 x i v vl);have S2:=Lh (cp 17 (x+v1*2^(64*i)) (i+1) v2 b7);rw[f1] at S1;have F2:=Lh f2;have F0:=Lh f0;have c0:wr.cell? ⟨w.heap.size,i,none⟩=some (.int .u64 (a:Int)):=by rw[ha];exact(Q0.out.below o.out (by omega)).cell (aZ 16 N _ (by omega))
   have c1:wr.cell? ⟨g+1,i,none⟩=some (.int .u64 (t:Int)):=by rw[ht];exact l.out.cell (aZ 17 x _ (by omega))
   have c2:wr.frozen? ⟨g+1,i,none⟩=false:=l.out.frozen _;have c3:wr.cell? ⟨g+1,i+1,none⟩=some (.int .u64 ((wdn x (i+1):Nat):Int)):=l.out.cell (aZ 17 x _ (by omega));have c4:wr.frozen? ⟨g+1,i+1,none⟩=false:=l.out.frozen _;have i1:(i:Int)<16:=by omega
   have i2:(i:Int)<17:=by omega
   have i3:(i:Int)+1<17:=by omega
   have i4:(0:Int)<=(i:Int):=by omega
   have i5:¬(w.heap.size=g+1):=by omega
   have i6:¬(g+1=w.heap.size):=by omega
   clear hx ht ha z T W al tl d0 b7 fo f1 f2 f0 vl;by_cases a9:s=0
   ·have j1:¬0<s:=by omega
    have F:=Lh (F0.out a9);clear a9 F0;go_wp2_with fail;go_region
    go_wp2_with fail;refine⟨⟨i+1,by omega,by go_num,(o.out.setCell (by simp) _).drew,?_⟩,(by first|(simp[intOf];done)|(simp[intOf];omega))⟩;have h:=l.out.ab i (.int .u64 (v:Int));rw[S1.out,F.out] at h;exact h.drew
   ·have j1:0<s:=by omega
    clear a9 F0;go_wp2_with fail;go_region
    go_wp2_with fail;refine⟨⟨i+1,by omega,by go_num,((o.out.setCell (by simp) _).drew).setCell (by simp) _,?_⟩,(by first|(simp[intOf];done)|(simp[intOf];omega))⟩;have h:=l.out.ab i (.int .u64 (v:Int));rw[S1.out] at h;have h2:=(h.drew).ab (i+1) (.int .u64 (v2:Int));rw[S2.out,F2.out] at h2;exact h2
  ·have a0:i=16:=by omega
   have c9:N%2^(64*i)=N:=Nat.mod_eq_of_lt (LtW.of_eq a0 HN.out);rw[c9,<-b.out.2.2.2.2.2.2.1] at l;have i1:¬(i:Int)<16:=by omega
   replace P:=Lh (P.out.below o.out (by omega));replace J:=Lh (J.out.below o.out (by omega));replace r:=Lh (r.out.below o.out (by omega));replace I:=Lh (I.out.below o.out (by omega));replace QV:=Lh (QV.out.below o.out (by omega));replace f:=Lh (f.out.trans (o.out.mono (by omega)));clear Q0 QU o c9 a0 d9;have k0:wrap64 ((m:Int)-(n:Int))=((m-n:Nat):Int):=by unfold wrap64;omega
   have e6:(m:Int)-(n:Int)=((m-n:Nat):Int):=by omega
   obtain⟨K,hK⟩:∃K,K=m-n:=⟨_,rfl⟩;rw[<-hK] at k0 e6;have HK:=Lh hK;clear hK;go_wp2_with fail;go_loopw [16] (fun a8 Q=>∃k:Nat,k<=K+1/\a8=.int .i64 ((k:Int)-1)/\Hid (zB w Q)/\Hid (Blk Q (w.heap.size+1+1) (rowW 16 0) 151)/\Hid (Blk Q (w.heap.size+1+1+1) (rowW 16 0) 151)/\Hid (Blk Q (w.heap.size+1+1+1+1) (rowW 16 (A/(V*2^(64*k))*2^(64*k))) 151)/\Hid (Blk Q (w.heap.size+1+1+1+1+1) (rowW 16 0) 151)/\Hid (Blk Q g (rowW 16 V) 151)/\Hid (Blk Q (g+1) (rowW 17 (A%(V*2^(64*k)))) 351)) (fun a8 _=>(intOf a8+1).toNat)
   case atStart=>
    have D:=b.out.2.2.2.2.2.2.2.2.2.2.1;rw[<-HK.out] at D;refine⟨K+1,by omega,by rw[show((K+1:Nat):Int)-1=(K:Int) by omega],f,P,J,?_,I,QV,?_⟩
    ·rw[Nat.div_eq_of_lt D,Nat.zero_mul];exact r
    ·rw[Nat.mod_eq_of_lt D];exact l
   case round=>
    clear f P J r I QV l i1 hi;obtain⟨k,hk,rfl,f,P,J,r,I,QV,QU⟩:=hrel;rcases k with _|j
    ·have e1:A/(V*2^(64*0))*2^(64*0)=N/M:=by rw[Nat.mul_zero,Nat.pow_zero,Nat.mul_one,Nat.mul_one];exact b.out.2.2.2.2.2.2.2.2.2.2.2.1
     have e2:A%(V*2^(64*0))=A%V:=by rw[Nat.mul_zero,Nat.pow_zero,Nat.mul_one]
     rw[e1] at r;rw[e2] at QU;obtain⟨R,hR⟩:∃R,R=A%V:=⟨_,rfl⟩;rw[<-hR] at QU;have e5:R<V:=by rw[hR];exact Nat.mod_lt _ b.out.2.2.2.2.2.2.2.2.2.1
     have e8:Hid (R<W16):=by
      have:=b.out.2.2.2.2.2.2.2.2.2.2.2.2.2.1;show R<W16;omega
     have e9:Hid (R/2^s=N%M):=by show _=_;rw[hR];exact b.out.2.2.2.2.2.2.2.2.2.2.2.2.1
     have k0:((0:Nat):Int)-1=-1:=rfl;rw[k0];clear e1 e2 hR e5 k0;go_wp2_with fail;refine dv 2 (by kernel_rfl) (by kernel_rfl) ?_;simp only[List.take_succ_cons,List.take_zero,List.drop_succ_cons,List.drop_zero];(repeat still_step);(try refine wpStill_nil ?_);go_wp2_with (refine wpList_copy_splice rfl _ _ 279 279 rfl 53 underlying279 jG _ _ 16 16 16 17 rfl rfl (w.heap.size+1+1+1+1+1) 0 (rowW 16 0).toList 151 (by rw[Array.toArray_toList];exact I.out.drew) (rowW 16 R).toList (by simp) (fun _=>⟨rfl,_,rfl,fun j v T=>?_⟩) (by simp) ?_ (w.heap.size+1+1+1+1+1) wr.drew (Below.refl _ _) (Nat.le_refl _) ?_)
     · have hj : j < 16 := by
         have:=(List.getElem?_eq_some_iff.1 T).1;simpa using this
       rw[Array.getElem?_toList,cL 16 R j hj] at T;rw[Addr.add_mid,<-T,Nat.zero_add];exact(Blk.cell QU.out.drew (by rw[cL 17 R j (by omega)]))
     ·intro v T;exact(Array.all_eq_true_iff_forall_mem.1 (bN 16 R)) v (by simpa using T)
     intro w5 Z O;have q5:Blk w5 (w.heap.size+1+1+1+1+1) (rowW 16 R) 151:=by have:=Z.out;rw[qk] at this;exact this
     have q2:Blk w5 (w.heap.size+1+1) (rowW 16 0) 151:=P.out.drew.below O (by omega);have q3:Blk w5 (w.heap.size+1+1+1) (rowW 16 0) 151:=J.out.drew.below O (by omega);have q4:Blk w5 (w.heap.size+1+1+1+1) (rowW 16 (N/M)) 151:=r.out.drew.below O (by omega);have b6:Hid (zB w w5):=(f.out.drew).trans (O.mono (by omega));have R5:=Lh q5;have R2:=Lh q2;have R3:=Lh q3;have R4:=Lh q4;clear q5 q2 q3 q4 O Z f;go_wp2_with fail;refine(yN _ _ R s _ e8.out (by have:=b.out.2.2.2.2.1;omega) (.bT R5.out)).mono ?_;rintro e w6 ⟨rfl,E⟩;rw[e9.out];have q5:=R5.out.keep E;have q2:=R2.out.keep E;have q3:=R3.out.keep E;have q4:=R4.out.keep E;have z6:=q5.lt;have y2:w.heap.size+1+1<w6.heap.size:=by omega
     have y3:w.heap.size+1+1+1<w6.heap.size:=by omega
     have y4:w.heap.size+1+1+1+1<w6.heap.size:=by omega
     have y5:w.heap.size+1+1+1+1+1<w6.heap.size:=by omega
     have r4:=q4.row?_all 16 (by simp);have f2:=q2.fits 16 (by simp);have f3:=q3.fits 16 (by simp);have f5:=q5.fits 16 (by simp);have p5:=q5.put? 0 (rowW 16 (N%M)) (by simp) (by simp);have p2:=q2.put? 0 (rowW 16 (N/M)) (by simp) (by simp);have f6:Hid (zB w w6):=b6.out.trans (E.mono b6.out.size);clear q5 q2 q3 q4 E b6 z6;go_wp2_with fail;go_region
     all_goals go_wp2_with fail
     all_goals exact fl 16 16 (rowW 16 (N/M)) (rowW 16 (N%M)) rfl rfl rfl rfl underlying151 rfl aO underlying151 rfl aO (by go_simp) (by go_simp) ⟨rfl,ae⟩
    ·obtain⟨U,hU⟩:∃U,U=A%(V*2^(64*(j+1))):=⟨_,rfl⟩;obtain⟨d,hd⟩:∃d,d=U/(V*2^(64*j)):=⟨_,rfl⟩;obtain⟨L,hL⟩:∃L,L=n+1:=⟨_,rfl⟩;obtain⟨cu,d8⟩:∃cu,cu=17-j:=⟨_,rfl⟩;have G:=b.out.2.2.2.2.2.2.2.2.2.1;have b0:U<V*2^(64*(j+1)):=by rw[hU];exact Nat.mod_lt _ (Nat.mul_pos G (Nat.two_pow_pos _))
     have d2:=HK.out;have H:=b.out.2.2.2.2.2.2.2.2.2.2.2.2.2.2;have c5:d<18446744073709551616:=by rw[hd];exact rp U V j G b0
     rw[<-hU] at QU;have b8:=vu A V j d (by rw[<-hU];exact hd);have b3:=se A V j;rw[<-hU] at b3;have HS:=Lh (cp 16 (A/(V*2^(64*(j+1)))*2^(64*(j+1))) j d c5);rw[b8] at HS;have d7:=Lh b3;have u:Hid (2<=n/\j+n<=16/\L=n+1/\L<=cu/\U<V*2^(64*(j+1))/\d=U/(V*2^(64*j))):=⟨H.2.2,by omega,hL,by omega,b0,hd⟩;have k1:((j+1:Nat):Int)-1=(j:Int):=by omega
     have k2:(0:Int)<=(j:Int):=by omega
     have k3:(j:Int)<16:=by omega
     obtain⟨c,d6⟩:∃c,c=j+n:=⟨_,rfl⟩;obtain⟨e,e4⟩:∃e,e=c+1:=⟨_,rfl⟩;have k4:IntKind.i64.wrap ((j:Int)+(n:Int))=(c:Int):=by rw[IntKind.wrap_i64];omega
     have k5:IntKind.i64.wrap ((c:Int)+1)=(e:Int):=by rw[IntKind.wrap_i64];omega
     have k6:(j:Int)<=(e:Int):=by omega
     have k7:(e:Int)<=17:=by omega
     have k8:e-j=L:=by omega
     have k9:17-j=cu:=by omega
     have g5:(e:Int)-(j:Int)=(L:Int):=by omega
     have f8:(17:Int)-(j:Int)=(cu:Int):=by omega
     have g6:(0:Int)<=(e:Int):=by omega
     have g2:(0:Int)<=(n:Int):=by omega
     have g3:j<=e:=by omega
     have f7:e<=17:=by omega
     have g0:n<=16:=by omega
     have g1:¬17=j:=by omega
     have f4:wr.frozen? ⟨w.heap.size+1+1+1+1,j,none⟩=false:=r.out.frozen _;have c4:wr.cell? ⟨w.heap.size+1+1+1+1,j,none⟩=some (.int .u64 ((wdn (A/(V*2^(64*(j+1)))*2^(64*(j+1))) j:Nat):Int)):=r.out.cell (aZ 16 _ _ (by omega));clear d6 e4;rw[k1];clear hU hd hL d8 G b0 d2 H c5 b8 b3;go_wp2_with fail
     go_region_held3 (fun w'=>w'.frozen? ⟨w.heap.size+1+1+1+1,j,none⟩=false) (go_simp)
      (first
       | (go_at_call 267
          refine(step_c (g+1) g U V n j L cu 16 _ u.out.1 u.out.2.1 u.out.2.2.1 u.out.2.2.2.1 (by have:=u.out.2.1;omega) b.out.2.2.2.2.2.2.2.1 b.out.2.2.2.2.2.2.2.2.1 u.out.2.2.2.2.1 QU.out.drew QV.out.drew (by omega)).mono ?_;rintro e w4 ⟨rfl,q,d4⟩;rw[<-u.out.2.2.2.2.2];have f4:w4.frozen? ⟨w.heap.size+1+1+1+1,j,none⟩=false:=(r.out.drew.below q (by omega)).frozen _;have c4:w4.cell? ⟨w.heap.size+1+1+1+1,j,none⟩=some (.int .u64 ((wdn (A/(V*2^(64*(j+1)))*2^(64*(j+1))) j:Nat):Int)):=(r.out.drew.below q (by omega)).cell (aZ 16 _ _ (by omega))))
     go_wp2_with fail;refine⟨⟨j,by omega,rfl,?_,?_,?_,?_,?_,?_,?_⟩,(by first|(simp[intOf];done)|(simp[intOf];omega))⟩
     ·exact((f.out.drew).trans (q.mono (by omega))).setCell (by simp;omega) _
     ·exact(P.out.drew.below q (by omega)).ac (by first|omega|(simp;done)|(simp;omega)|fail) _
     ·exact(J.out.drew.below q (by omega)).ac (by first|omega|(simp;done)|(simp;omega)|fail) _
     ·have h:=(r.out.drew.below q (by omega)).ab j (.int .u64 (d:Int));rw[HS.out] at h;exact h
     ·exact(I.out.drew.below q (by omega)).ac (by first|omega|(simp;done)|(simp;omega)|fail) _
     ·exact(QV.out.drew.below q (by omega)).ac (by first|omega|(simp;done)|(simp;omega)|fail) _
     ·rw[<-d7.out];exact d4.ac (by first|omega|(simp;done)|(simp;omega)|fail) _
theorem ji(N M:Nat)(w:World)(b:N<W16)(a:M<W16)(c:M≠0):zR 204 #[.agg (rowW 16 N),.agg (rowW 16 M)] w (.tuple #[.agg (rowW 16 (N/M)),.agg (rowW 16 (N%M))]):=by
 rcases Nat.lt_or_ge N M with h|h
 ·exact ww N M w b a h
 ·by_cases d:np M<=1
  ·exact tz N M w b a h c ((bX M 1).1 d)
  ·exact tA N M _ _ w b a h rfl rfl (by omega)
def WI.div(x y:WI):WI×Int:=
 match x.v,y.v with
 | some a,some b=>if b=0 then (WI.of 0,1) else (WI.of (a.fdiv b),0)
 | _,_=>(WI.of 0,2)
theorem WI.of_0:(WI.of 0).cells=cellsI false false 0:=by
 have:=WI.pp (n:=false) (N:=0) (by rw[uO];omega);exact this
theorem WI.div_over(x y:WI)(h:x.ov=true∨y.ov=true):x.div y=(WI.of 0,2):=by
 unfold WI.div;unfold WI.ov at h;cases hx:x.v<;>cases hy:y.v<;>simp_all
theorem WI.div_zero(x y:WI)(b:x.ov=false)(a:y.ov=false)(h:y.sz=0):x.div y=(WI.of 0,1):=by
 unfold WI.div;rw[WI.br b,WI.br a,h];simp[sgn]
theorem rg(a b:Nat):(a:Int).fdiv (b:Int)=((a/b:Nat):Int):=by
 rw[Int.fdiv_eq_ediv_of_nonneg _ (by omega),Int.natCast_ediv]
theorem qi(n m:Bool)(N M:Nat)(i:M≠0):(sgn n N).fdiv (sgn m M)=sgn (n != m) (if (n != m)&&decide (N%M≠0) then N/M+1 else N/M):=by
 have b:=Nat.div_add_mod N M;have f:=Nat.mod_lt N (Nat.pos_of_ne_zero i)
 have c:∀q:Nat,q=(if decide (N%M≠0) then N/M+1 else N/M)->(-(N:Int)).fdiv (M:Int)=-(q:Int):=by
  intro q g;rw[Int.fdiv_eq_ediv_of_nonneg _ (by omega)];by_cases d:N%M=0
  ·have a:q=N/M:=by rw[g];simp[d]
   rw[a]
   have e : -(N:Int)=-((N/M:Nat):Int)*(M:Int):=by
    rw[d,Nat.add_zero] at b;conv=>lhs;rw[<-b]
    rw[Int.natCast_mul,Int.neg_mul,Int.mul_comm]
   rw[e,Int.mul_ediv_cancel _ (by omega)]
  ·have a:q=N/M+1:=by rw[g];simp[d]
   rw[a]
   have e : -(N:Int)=((M-N%M:Nat):Int)+(-((N/M+1:Nat):Int))*(M:Int):=by
    have h:(N:Int)=(M:Int)*((N/M:Nat):Int)+((N%M:Nat):Int):=by rw[<-Int.natCast_mul,<-Int.natCast_add,b]
    rw[Int.ofNat_sub (Nat.le_of_lt f)];conv=>lhs;rw[h]
    rw[Int.natCast_add];grind
   rw[e,Int.add_mul_ediv_right _ _ (by omega),Int.ediv_eq_zero_of_lt (by omega) (by omega)];omega
 cases n<;>cases m<;>simp only[sgn,Bool.false_eq_true,if_true,if_false,bne_self_eq_false,Bool.false_and,Bool.true_bne,Bool.false_bne,Bool.not_false,Bool.true_and]
 ·exact rg N M
 ·rw[show(N:Int).fdiv (-(M:Int))=(-(N:Int)).fdiv (M:Int) by rw[<-Int.neg_fdiv_neg,Int.neg_neg]];exact c _ rfl
 ·exact c _ rfl
 ·rw[Int.neg_fdiv_neg];exact rg N M
theorem WI.div_some(x y:WI)(a:x.ov=false)(b:y.ov=false)(h:y.sz≠0):x.div y=(WI.of (sgn (x.ng != y.ng) (if (x.ng != y.ng)&&decide (x.sz%y.sz≠0) then x.sz/y.sz+1 else x.sz/y.sz)),0):=by
 unfold WI.div;rw[WI.br a,WI.br b];have c:¬sgn y.ng y.sz=0:=by unfold sgn;split<;>omega
 simp only[c,if_false];rw[qi _ _ _ _ h]
end Go.Proofs.YtechbdnhalmobaaGreatDoor
