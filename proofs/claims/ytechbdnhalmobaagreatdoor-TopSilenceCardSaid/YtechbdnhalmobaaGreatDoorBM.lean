/- Walks. -/
import Derived.Deep.Cut
import Derived.Test.YtechbdnhalmobaaGreatDoorBY
open Go.Proofs.Tryz
set_option maxRecDepth 100000
set_option maxHeartbeats 16000000
namespace Go.Proofs.YtechbdnhalmobaaGreatDoor
set_option linter.unusedSimpArgs false
set_option linter.unusedVariables false
open Go.RowKit
def inB(n:Int):Bool:=decide (-2305843009213693952<=n)&&decide (n<=2305843009213693952)
def kO(a b d:Int):Bool:=inB a&&inB b&&inB d
theorem un(n:Int):inB n=true↔-2305843009213693952<=n/\n<=2305843009213693952:=by unfold inB;simp
theorem mx(a b d:Int):kO a b d=true↔(-2305843009213693952<=a/\a<=2305843009213693952)/\(-2305843009213693952<=b/\b<=2305843009213693952)/\(-2305843009213693952<=d/\d<=2305843009213693952):=by
 unfold kO;simp[un,and_assoc]
abbrev ei(a b d:Int):Value:=.agg #[a,b,d]
abbrev ptV(x y:Int):Value:=.agg #[x,y]
def I64(z:Int):Prop:=-9223372036854775808<=z/\z<=9223372036854775807
theorem DT(n:Int)(w:World):Calls prog 318 #[n] w fun e c=>e=.returned (.bool (inB n))/\c=w:=by
 by_cases a : -2305843009213693952<=n
 ·by_cases b:n<=2305843009213693952
  ·have E:Hid (inB n=true):=(un n).2 ⟨a,b⟩;go_enter func318,ntmps318;go_wp2
   go_ret;exact⟨by rw[E.out];rfl,rfl⟩
  ·have E:Hid (inB n=false):=by show inB n=false;unfold inB;simp[a,b]
   go_enter func318,ntmps318;go_wp2
   go_ret;exact⟨by rw[E.out];rfl,rfl⟩
 ·have E:Hid (inB n=false):=by show inB n=false;unfold inB;simp[a]
  go_enter func318,ntmps318;go_wp2
  go_ret;exact⟨by rw[E.out];rfl,rfl⟩
theorem CQ(a b d:Int)(w:World):zR 270 #[ei a b d] w (.bool (kO a b d)):=by
 have E:Hid (kO a b d=(inB a&&inB b&&inB d)):=rfl;go_enter func270,ntmps270;cases ha:inB a with
 | false=>
  go_wp2_with (go_at_call 318;refine(DT _ _).mono ?_;rintro e c ⟨rfl,rfl⟩;(try rw[ha]))
  go_ret;exact⟨by rw[E.out,ha];rfl,ae⟩
 | true=>
  cases hb:inB b with
  | false=>
   go_wp2_with (go_at_call 318;refine(DT _ _).mono ?_;rintro e c ⟨rfl,rfl⟩;(first|rw[ha]|rw[hb]))
   go_ret;exact⟨by rw[E.out,ha,hb];rfl,ae⟩
  | true=>
   go_wp2_with (go_at_call 318;refine(DT _ _).mono ?_;rintro e c ⟨rfl,rfl⟩;(first|rw[ha]|rw[hb]|skip))
   go_ret;exact⟨by rw[E.out,ha,hb];rfl,ae⟩
def no(a b d:Int):Value:=if kO a b d then ei d (-b) a else ei 0 0 0
theorem Ga(a b d:Int)(w:World):zR 210 #[ei a b d] w (no a b d):=by
 have E:Hid (no a b d=if kO a b d then ei d (-b) a else ei 0 0 0):=rfl;cases hm:kO a b d with
 | true=>
  have j:IntKind.i64.wrap (-b)=-b:=by have:=(mx a b d).1 hm;rw[IntKind.wrap_i64];omega
  go_enter func210,ntmps210;go_wp2_with fail;refine(CQ _ _ _ _).mono ?_;rintro e i ⟨rfl,c⟩;rw[hm];have f:=c.size;(try simp at f);have g:=bq c (w.heap.size);have h:=bq c (w.heap.size+1);go_wp2
  exact ak 3 #[.int .i64 d,.int .i64 (-b),.int .i64 a] rfl rfl rfl underlying33 rfl (by kernel_rfl) rc3 ⟨by rw[E.out,hm];rfl,ae⟩
 | false=>
  go_enter func210,ntmps210;go_wp2_with fail;refine(CQ _ _ _ _).mono ?_;rintro e i ⟨rfl,c⟩;rw[hm];have f:=c.size;(try simp at f);have g:=bq c (w.heap.size);have h:=bq c (w.heap.size+1);go_wp2
  exact ak 3 #[.int .i64 0,.int .i64 0,.int .i64 0] rfl rfl rfl underlying33 rfl (by kernel_rfl) rc3 ⟨by rw[E.out,hm];rfl,ae⟩
theorem kQ(a b:Int)(j:I64 a)(k:I64 b)(w:World):zR 87 #[a,b] w (.agg (WI.of (a*b)).cells):=by
 have E:=Lh (WI.au (Sm.lim (Sm.of64 j.1 j.2) (by decide)) (Sm.lim (Sm.of64 k.1 k.2) (by decide)));have o:=Lh j;have p:=Lh k;clear j k;go_enter func87,ntmps87;go_wp2_with fail;refine(eg _ o.out.1 o.out.2 _).mono ?_;rintro e q ⟨rfl,g⟩;have i:=g.size;(try simp at i);have m:=bq g (w.heap.size);go_wp2_with fail;refine(eg _ p.out.1 p.out.2 _).mono ?_;rintro e s ⟨rfl,h⟩;have c:=h.size;(try simp at c);have l:=bq h (w.heap.size);go_wp2_with fail;refine(cN _ _ _).mono ?_;rintro e r ⟨rfl,d⟩;have f:=d.size;(try simp at f);have n:=bq d (w.heap.size);go_wp2
 exact ak 18 ((WI.of a).mul (WI.of b)).cells rfl rfl rfl underlying153 rfl aE (by go_simp) ⟨by rw[E.out],ae⟩
theorem CS(x y z:WI)(w:World):zR 149 #[.agg x.cells,.agg y.cells,.agg z.cells] w (.agg ((x.mul z).sub (y.mul y)).cells):=by
 go_enter func149,ntmps149;go_wp2_with fail
 go_region_held3 (fun h=>h.row? w.heap.size 0 18=some x.cells/\h.row? (w.heap.size+1) 0 18=some y.cells/\h.row? (w.heap.size+1+1) 0 18=some z.cells) (go_simp)
  (first
   | (go_at_call 153;refine(cN _ _ _).mono ?_;rintro e l ⟨rfl,b⟩;have d:=b.size;(try simp at d);have f:=bq3 b (w.heap.size);have i:=bq b (w.heap.size+1+1+1))
   | (go_at_call 85;refine(jY _ _ _).mono ?_;rintro e k ⟨rfl,a⟩;have c:=a.size;(try simp at c);have g:=bq3 a (w.heap.size);have j:=bq a (w.heap.size+1+1+1)))
 go_wp2
 exact ak 18 ((x.mul z).sub (y.mul y)).cells rfl rfl rfl underlying153 rfl aE (by go_simp) ⟨rfl,ae⟩
def xM(x y z:WI):Bool:=decide (0<=x.sign)&&decide (0<=z.sign)&&decide (0<=((x.mul z).sub (y.mul y)).sign)
theorem Fy(x y z:WI)(w:World):zR 88 #[.agg x.cells,.agg y.cells,.agg z.cells] w (.bool (xM x y z)):=by
 have E:Hid (xM x y z=(decide (0<=x.sign)&&decide (0<=z.sign)&&decide (0<=((x.mul z).sub (y.mul y)).sign))):=rfl;by_cases s:0<=x.sign
 ·by_cases p:0<=z.sign
  ·go_enter func88,ntmps88;go_wp2_with fail;refine(dX _ _).mono ?_;rintro e n ⟨rfl,a⟩;have b:=a.size;(try simp at b);have c:=bq3 a (w.heap.size);go_wp2_with fail;refine(dX _ _).mono ?_;rintro e o ⟨rfl,f⟩;have d:=f.size;(try simp at d);have g:=bq3 f (w.heap.size);go_wp2_with fail;refine(CS _ _ _ _).mono ?_;rintro e r ⟨rfl,j⟩;have k:=j.size;(try simp at k);have l:=bq3 j (w.heap.size);go_wp2_with fail;refine(dX _ _).mono ?_;rintro e q ⟨rfl,h⟩;have i:=h.size;(try simp at i);have m:=bq3 h (w.heap.size);go_wp2
   go_ret;exact⟨by rw[E.out,decide_eq_true (show 0<=x.sign by omega),decide_eq_true (show 0<=z.sign by omega)];simp,ae⟩
  ·go_enter func88,ntmps88;go_wp2_with fail;refine(dX _ _).mono ?_;rintro e n ⟨rfl,a⟩;have b:=a.size;(try simp at b);have c:=bq3 a (w.heap.size);go_wp2_with fail;refine(dX _ _).mono ?_;rintro e o ⟨rfl,f⟩;have d:=f.size;(try simp at d);have g:=bq3 f (w.heap.size);go_wp2
   go_ret;exact⟨by rw[E.out,decide_eq_false (show ¬0<=z.sign by omega)];simp,ae⟩
 ·go_enter func88,ntmps88;go_wp2_with fail;refine(dX _ _).mono ?_;rintro e n ⟨rfl,a⟩;have b:=a.size;(try simp at b);have c:=bq3 a (w.heap.size);go_wp2
  go_ret;exact⟨by rw[E.out,decide_eq_false (show ¬0<=x.sign by omega)];simp,ae⟩
theorem pu(a b d:Int)(e:Sm 127 a)(c:Sm 127 b)(f:Sm 127 d):((WI.of a).mul (WI.of d)).sub ((WI.of b).mul (WI.of b))=WI.of (a*d-b*b):=by
 rw[WI.au (e.lim (by decide)) (f.lim (by decide)),WI.au (c.lim (by decide)) (c.lim (by decide)),WI.ez ((e.mul f).lim (by decide)) ((c.mul c).lim (by decide))]
def oZ(a b d:Int):Bool:=decide (0<=a)&&decide (0<=d)&&decide (0<=a*d-b*b)
theorem AZ(a b d:Int)(e:Sm 127 a)(c:Sm 127 b)(f:Sm 127 d):xM (WI.of a) (WI.of b) (WI.of d)=oZ a b d:=by
 unfold xM oZ;rw[pu a b d e c f,WI.di (e.lim (by decide)),WI.di (f.lim (by decide)),WI.di (((e.mul f).sub (c.mul c)).lim (by decide))];simp only[Int.sign_nonneg_iff]
theorem I64.sm{a:Int}(h:I64 a):Sm 127 a:=(Sm.of64 h.1 h.2).mono (by decide)
theorem qR(a b d:Int)(n:I64 a)(o:I64 b)(l:I64 d)(w:World):zR 78 #[ei a b d] w (.agg (WI.of (a*d-b*b)).cells):=by
 have E:=Lh (pu a b d n.sm o.sm l.sm);have q:=Lh n;have s:=Lh o;have r:=Lh l;clear n o l;go_enter func78,ntmps78;go_wp2_with fail
 go_region_held3 (fun m=>m.cell? ⟨w.heap.size,0,none⟩=some (.int .i64 a)/\m.cell? ⟨w.heap.size,1,none⟩=some (.int .i64 b)/\m.cell? ⟨w.heap.size,2,none⟩=some (.int .i64 d)) (go_simp)
  (first
   | (go_at_call 86;refine(eg _ (by first|exact q.out.1|exact s.out.1|exact r.out.1) (by first|exact q.out.2|exact s.out.2|exact r.out.2) _).mono ?_;rintro e t ⟨rfl,c⟩;have h:=c.size;(try simp at h);have k:=bq c (w.heap.size);have p:=bq c (w.heap.size+1))
   | (go_at_call 149;refine(CS _ _ _ _).mono ?_;rintro e u ⟨rfl,f⟩;have g:=f.size;(try simp at g);have i:=bq f (w.heap.size);have j:=bq f (w.heap.size+1)))
 go_wp2
 exact ak 18 (((WI.of a).mul (WI.of d)).sub ((WI.of b).mul (WI.of b))).cells rfl rfl rfl underlying153 rfl aE (by go_simp) ⟨by rw[E.out],ae⟩
theorem AX(a b d x y:Int)(h:I64 a)(g:I64 b)(f:I64 d)(c:I64 x)(e:I64 y):(((WI.of a).mul (WI.of (x*x))).add ((WI.of d).mul (WI.of (y*y)))).add (((WI.of b).mul (WI.of (x*y))).add ((WI.of b).mul (WI.of (x*y))))=WI.of (a*(x*x)+d*(y*y)+(b*(x*y)+b*(x*y))):=by
 have A:=Sm.of64 h.1 h.2;have B:=Sm.of64 g.1 g.2;have D:=Sm.of64 f.1 f.2;have X:=Sm.of64 c.1 c.2;have Y:=Sm.of64 e.1 e.2
 rw[WI.au (A.lim (by decide)) ((X.mul X).lim (by decide)),WI.au (D.lim (by decide)) ((Y.mul Y).lim (by decide)),WI.au (B.lim (by decide)) ((X.mul Y).lim (by decide)),
  WI.ce ((A.mul (X.mul X)).lim (by decide)) ((D.mul (Y.mul Y)).lim (by decide)),WI.ce ((B.mul (X.mul Y)).lim (by decide)) ((B.mul (X.mul Y)).lim (by decide)),
  WI.ce (((A.mul (X.mul X)).add (D.mul (Y.mul Y))).lim (by decide)) (((B.mul (X.mul Y)).add (B.mul (X.mul Y))).lim (by decide))]
theorem xJ(a b d x y:Int)(ha:I64 a)(hb:I64 b)(hd:I64 d)(hx:I64 x)(hy:I64 y)(w:World):zR 211 #[ei a b d,ptV x y] w (.agg (WI.of (a*(x*x)+d*(y*y)+(b*(x*y)+b*(x*y)))).cells):=by
 have E:=Lh (AX a b d x y ha hb hd hx hy);have HA:=Lh ha;have HB:=Lh hb;have HD:=Lh hd;have HX:=Lh hx;have HY:=Lh hy;clear ha hb hd hx hy;go_enter func211,ntmps211;go_wp2_with fail
 go_cut [5] from 8 (fun s5 wc=>∃g,s5=.pointer (some ⟨g,0,none⟩)/\w.heap.size+1+1+1<=g/\g<wc.heap.size/\wc.row? g 0 18=some ((WI.of a).mul (WI.of (x*x))).cells/\wc.fits (w.heap.size+1+1) 18=true/\
  wc.cell? ⟨w.heap.size,0,none⟩=some (.int .i64 a)/\wc.cell? ⟨w.heap.size,1,none⟩=some (.int .i64 b)/\wc.cell? ⟨w.heap.size,2,none⟩=some (.int .i64 d)/\
  wc.cell? ⟨w.heap.size+1,0,none⟩=some (.int .i64 x)/\wc.cell? ⟨w.heap.size+1,1,none⟩=some (.int .i64 y)/\Hid (zB w wc))
 case first=>
  go_region_held3 (fun F=>F.cell? ⟨w.heap.size,0,none⟩=some (.int .i64 a)/\F.cell? ⟨w.heap.size+1,0,none⟩=some (.int .i64 x)) (go_simp)
   (first
    | (go_at_call 86;refine(eg _ HA.out.1 HA.out.2 _).mono ?_;rintro e k ⟨rfl,f⟩;have l:=f.size;(try simp at l);have p:=bq3 f (w.heap.size);(try (refine aI (bk f (w.heap.size+1+1+1)) ?_ ?_;(focus (first|omega|(simp;done)|(simp;omega)));rintro⟨y_w1_q1,c_w1_q1,f_w1_q1,r_w1_q1,t_w1_q1,p_w1_q1⟩)))
    | (go_at_call 87;refine(kQ _ _ HX.out HX.out _).mono ?_;rintro e s ⟨rfl,i⟩;have r:=i.size;(try simp at r);have A:=bq3 i (w.heap.size);(try (refine aI (bk i (w.heap.size+1+1+1)) ?_ ?_;(focus (first|omega|(simp;done)|(simp;omega)));rintro⟨y_w2_q1,c_w2_q1,f_w2_q1,r_w2_q1,t_w2_q1,p_w2_q1⟩));(try (refine aI (bk i (k.heap.size)) ?_ ?_;(focus (first|omega|(simp;done)|(simp;omega)));rintro⟨y_w2_q2,c_w2_q2,f_w2_q2,r_w2_q2,t_w2_q2,p_w2_q2⟩;have J:¬(w.heap.size=k.heap.size):=(by omega);have C:¬(w.heap.size+1=k.heap.size):=(by omega);have M:¬(w.heap.size+1+1=k.heap.size):=(by omega))))
    | (go_at_call 153;refine(cN _ _ _).mono ?_;rintro e w3 ⟨rfl,c⟩;have q:=c.size;(try simp at q);have z:=bq3 c (w.heap.size);(try (refine aI (bk c (w.heap.size+1+1+1)) ?_ ?_;(focus (first|omega|(simp;done)|(simp;omega)));rintro⟨y_w3_q1,c_w3_q1,f_w3_q1,r_w3_q1,t_w3_q1,p_w3_q1⟩));(try (refine aI (bk c (k.heap.size)) ?_ ?_;(focus (first|omega|(simp;done)|(simp;omega)));rintro⟨y_w3_q2,c_w3_q2,f_w3_q2,r_w3_q2,t_w3_q2,p_w3_q2⟩;have G:¬(w.heap.size=k.heap.size):=(by omega);have D:¬(w.heap.size+1=k.heap.size):=(by omega);have O:¬(w.heap.size+1+1=k.heap.size):=(by omega)));(try (refine aI (bk c (s.heap.size)) ?_ ?_;(focus (first|omega|(simp;done)|(simp;omega)));rintro⟨y_w3_q3,c_w3_q3,f_w3_q3,r_w3_q3,t_w3_q3,p_w3_q3⟩;have n:¬(w.heap.size=s.heap.size):=(by omega);have o:¬(w.heap.size+1=s.heap.size):=(by omega);have m:¬(w.heap.size+1+1=s.heap.size):=(by omega)))))
  all_goals go_wp2_with fail
  all_goals go_meet
  all_goals exact⟨_,rfl,(by first|omega|(simp;done)|(simp;omega)|fail),(by first|omega|(simp;done)|(simp;omega)|fail),(by go_simp),(by go_simp),(by go_simp),(by go_simp),(by go_simp),(by go_simp),(by go_simp),ae⟩
 case rest=>
  obtain⟨g,rfl,d0,d3,b8,hf,c0,c1,c2,c3,c4,b7⟩:=hcut;have y0:w.heap.size<wc.heap.size:=by omega
  have y1:w.heap.size+1<wc.heap.size:=by omega
  have y2:w.heap.size+1+1<wc.heap.size:=by omega
  go_wp2_with fail
  go_cut [6] from 8 (fun s6 wc=>∃h,s6=.pointer (some ⟨h,0,none⟩)/\w.heap.size+1+1+1<=h/\h<wc.heap.size/\wc.row? h 0 18=some ((WI.of d).mul (WI.of (y*y))).cells/\g<wc.heap.size/\wc.row? g 0 18=some ((WI.of a).mul (WI.of (x*x))).cells/\wc.fits (w.heap.size+1+1) 18=true/\
   wc.cell? ⟨w.heap.size,1,none⟩=some (.int .i64 b)/\
   wc.cell? ⟨w.heap.size+1,0,none⟩=some (.int .i64 x)/\wc.cell? ⟨w.heap.size+1,1,none⟩=some (.int .i64 y)/\Hid (zB w wc))
  case first=>
   go_region_held3 (fun F=>F.cell? ⟨w.heap.size,2,none⟩=some (.int .i64 d)/\F.cell? ⟨w.heap.size+1,1,none⟩=some (.int .i64 y)) (go_simp)
    (first
     | (go_at_call 86;refine(eg _ HD.out.1 HD.out.2 _).mono ?_;rintro e k ⟨rfl,f⟩;have l:=f.size;(try simp at l);have p:=bq3 f (w.heap.size);have B:=bq f (g);(try (refine aI (bk f (wc.heap.size)) ?_ ?_;(focus (first|omega|(simp;done)|(simp;omega)));rintro⟨y_w1_q2,c_w1_q2,f_w1_q2,r_w1_q2,t_w1_q2,p_w1_q2⟩;have a1:¬(g=wc.heap.size):=(by omega);have b1:¬(w.heap.size=wc.heap.size):=(by omega);have a8:¬(w.heap.size+1=wc.heap.size):=(by omega);have a5:¬(w.heap.size+1+1=wc.heap.size):=(by omega))))
     | (go_at_call 87;refine(kQ _ _ HY.out HY.out _).mono ?_;rintro e s ⟨rfl,i⟩;have r:=i.size;(try simp at r);have A:=bq3 i (w.heap.size);have R:=bq i (g);(try (refine aI (bk i (wc.heap.size)) ?_ ?_;(focus (first|omega|(simp;done)|(simp;omega)));rintro⟨y_w2_q2,c_w2_q2,f_w2_q2,r_w2_q2,t_w2_q2,p_w2_q2⟩;have Z:¬(g=wc.heap.size):=(by omega);have J:¬(w.heap.size=wc.heap.size):=(by omega);have C:¬(w.heap.size+1=wc.heap.size):=(by omega);have M:¬(w.heap.size+1+1=wc.heap.size):=(by omega)));(try (refine aI (bk i (k.heap.size)) ?_ ?_;(focus (first|omega|(simp;done)|(simp;omega)));rintro⟨y_w2_q3,c_w2_q3,f_w2_q3,r_w2_q3,t_w2_q3,p_w2_q3⟩;have u:¬(g=k.heap.size):=(by omega);have N:¬(w.heap.size=k.heap.size):=(by omega);have L:¬(w.heap.size+1=k.heap.size):=(by omega);have K:¬(w.heap.size+1+1=k.heap.size):=(by omega))))
     | (go_at_call 153;refine(cN _ _ _).mono ?_;rintro e w3 ⟨rfl,c⟩;have q:=c.size;(try simp at q);have z:=bq3 c (w.heap.size);have Q:=bq c (g);(try (refine aI (bk c (wc.heap.size)) ?_ ?_;(focus (first|omega|(simp;done)|(simp;omega)));rintro⟨y_w3_q2,c_w3_q2,f_w3_q2,r_w3_q2,t_w3_q2,p_w3_q2⟩;have a2:¬(g=wc.heap.size):=(by omega);have G:¬(w.heap.size=wc.heap.size):=(by omega);have D:¬(w.heap.size+1=wc.heap.size):=(by omega);have O:¬(w.heap.size+1+1=wc.heap.size):=(by omega)));(try (refine aI (bk c (k.heap.size)) ?_ ?_;(focus (first|omega|(simp;done)|(simp;omega)));rintro⟨y_w3_q3,c_w3_q3,f_w3_q3,r_w3_q3,t_w3_q3,p_w3_q3⟩;have t:¬(g=k.heap.size):=(by omega);have n:¬(w.heap.size=k.heap.size):=(by omega);have o:¬(w.heap.size+1=k.heap.size):=(by omega);have m:¬(w.heap.size+1+1=k.heap.size):=(by omega)));(try (refine aI (bk c (s.heap.size)) ?_ ?_;(focus (first|omega|(simp;done)|(simp;omega)));rintro⟨y_w3_q4,c_w3_q4,f_w3_q4,r_w3_q4,t_w3_q4,p_w3_q4⟩;have v:¬(g=s.heap.size):=(by omega);have H:¬(w.heap.size=s.heap.size):=(by omega);have I:¬(w.heap.size+1=s.heap.size):=(by omega);have P:¬(w.heap.size+1+1=s.heap.size):=(by omega)))))
   all_goals go_wp2_with fail
   all_goals go_meet
   all_goals exact⟨_,rfl,(by first|omega|(simp;done)|(simp;omega)|fail),(by first|omega|(simp;done)|(simp;omega)|fail),(by go_simp),(by first|omega|(simp;done)|(simp;omega)|fail),(by go_simp),(by go_simp),(by go_simp),(by go_simp),(by go_simp),ae⟩
  case rest=>
   obtain⟨h,rfl,d1,d5,c7,d6,b8,hf,c1,c3,c4,b7⟩:=hcut;have y0:w.heap.size<wc.heap.size:=by omega
   have y1:w.heap.size+1<wc.heap.size:=by omega
   have y2:w.heap.size+1+1<wc.heap.size:=by omega
   go_wp2_with fail
   go_cut [7] from 8 (fun s7 wc=>∃j,s7=.pointer (some ⟨j,0,none⟩)/\w.heap.size+1+1+1<=j/\j<wc.heap.size/\wc.row? j 0 18=some ((WI.of b).mul (WI.of (x*y))).cells/\
    h<wc.heap.size/\wc.row? h 0 18=some ((WI.of d).mul (WI.of (y*y))).cells/\g<wc.heap.size/\wc.row? g 0 18=some ((WI.of a).mul (WI.of (x*x))).cells/\wc.fits (w.heap.size+1+1) 18=true/\Hid (zB w wc))
   case first=>
    go_region_held3 (fun F=>F.cell? ⟨w.heap.size,1,none⟩=some (.int .i64 b)/\F.cell? ⟨w.heap.size+1,0,none⟩=some (.int .i64 x)/\F.cell? ⟨w.heap.size+1,1,none⟩=some (.int .i64 y)) (go_simp)
     (first
      | (go_at_call 86;refine(eg _ HB.out.1 HB.out.2 _).mono ?_;rintro e k ⟨rfl,f⟩;have l:=f.size;(try simp at l);have p:=bq3 f (w.heap.size);have B:=bq f (g);have S:=bq f (h);(try (refine aI (bk f (wc.heap.size)) ?_ ?_;(focus (first|omega|(simp;done)|(simp;omega)));rintro⟨y_w1_q3,c_w1_q3,f_w1_q3,r_w1_q3,t_w1_q3,p_w1_q3⟩;have W:¬(g=wc.heap.size):=(by omega);have Y:¬(h=wc.heap.size):=(by omega);have a7:¬(w.heap.size=wc.heap.size):=(by omega);have b0:¬(w.heap.size+1=wc.heap.size):=(by omega);have b4:¬(w.heap.size+1+1=wc.heap.size):=(by omega))))
      | (go_at_call 87;refine(kQ _ _ HX.out HY.out _).mono ?_;rintro e s ⟨rfl,i⟩;have r:=i.size;(try simp at r);have A:=bq3 i (w.heap.size);have R:=bq i (g);have b9:=bq i (h);(try (refine aI (bk i (wc.heap.size)) ?_ ?_;(focus (first|omega|(simp;done)|(simp;omega)));rintro⟨y_w2_q3,c_w2_q3,f_w2_q3,r_w2_q3,t_w2_q3,p_w2_q3⟩;have u:¬(g=wc.heap.size):=(by omega);have V:¬(h=wc.heap.size):=(by omega);have N:¬(w.heap.size=wc.heap.size):=(by omega);have L:¬(w.heap.size+1=wc.heap.size):=(by omega);have K:¬(w.heap.size+1+1=wc.heap.size):=(by omega)));(try (refine aI (bk i (k.heap.size)) ?_ ?_;(focus (first|omega|(simp;done)|(simp;omega)));rintro⟨y_w2_q4,c_w2_q4,f_w2_q4,r_w2_q4,t_w2_q4,p_w2_q4⟩;have a4:¬(g=k.heap.size):=(by omega);have a3:¬(h=k.heap.size):=(by omega);have b5:¬(w.heap.size=k.heap.size):=(by omega);have b3:¬(w.heap.size+1=k.heap.size):=(by omega);have a9:¬(w.heap.size+1+1=k.heap.size):=(by omega))))
      | (go_at_call 153;refine(cN _ _ _).mono ?_;rintro e w3 ⟨rfl,c⟩;have q:=c.size;(try simp at q);have z:=bq3 c (w.heap.size);have Q:=bq c (g);have c6:=bq c (h);(try (refine aI (bk c (wc.heap.size)) ?_ ?_;(focus (first|omega|(simp;done)|(simp;omega)));rintro⟨y_w3_q3,c_w3_q3,f_w3_q3,r_w3_q3,t_w3_q3,p_w3_q3⟩;have t:¬(g=wc.heap.size):=(by omega);have U:¬(h=wc.heap.size):=(by omega);have n:¬(w.heap.size=wc.heap.size):=(by omega);have o:¬(w.heap.size+1=wc.heap.size):=(by omega);have m:¬(w.heap.size+1+1=wc.heap.size):=(by omega)));(try (refine aI (bk c (k.heap.size)) ?_ ?_;(focus (first|omega|(simp;done)|(simp;omega)));rintro⟨y_w3_q4,c_w3_q4,f_w3_q4,r_w3_q4,t_w3_q4,p_w3_q4⟩;have v:¬(g=k.heap.size):=(by omega);have X:¬(h=k.heap.size):=(by omega);have H:¬(w.heap.size=k.heap.size):=(by omega);have I:¬(w.heap.size+1=k.heap.size):=(by omega);have P:¬(w.heap.size+1+1=k.heap.size):=(by omega)));(try (refine aI (bk c (s.heap.size)) ?_ ?_;(focus (first|omega|(simp;done)|(simp;omega)));rintro⟨y_w3_q5,c_w3_q5,f_w3_q5,r_w3_q5,t_w3_q5,p_w3_q5⟩;have a0:¬(g=s.heap.size):=(by omega);have T:¬(h=s.heap.size):=(by omega);have a6:¬(w.heap.size=s.heap.size):=(by omega);have b2:¬(w.heap.size+1=s.heap.size):=(by omega);have b6:¬(w.heap.size+1+1=s.heap.size):=(by omega)))))
    all_goals go_wp2_with fail
    all_goals go_meet
    all_goals exact⟨_,rfl,(by first|omega|(simp;done)|(simp;omega)|fail),(by first|omega|(simp;done)|(simp;omega)|fail),(by go_simp),(by first|omega|(simp;done)|(simp;omega)|fail),(by go_simp),(by first|omega|(simp;done)|(simp;omega)|fail),(by go_simp),(by go_simp),ae⟩
   case rest=>
    obtain⟨j,rfl,d4,d7,c9,c8,c7,d2,b8,hf,b7⟩:=hcut;have y0:w.heap.size<wc.heap.size:=by omega
    have y1:w.heap.size+1<wc.heap.size:=by omega
    have y2:w.heap.size+1+1<wc.heap.size:=by omega
    go_wp2_with fail
    go_region_held3 (fun F=>F.row? g 0 18=some ((WI.of a).mul (WI.of (x*x))).cells/\F.row? h 0 18=some ((WI.of d).mul (WI.of (y*y))).cells/\F.row? j 0 18=some ((WI.of b).mul (WI.of (x*y))).cells) (go_simp)
     (first
      | (go_at_call 155;refine(mV _ _ _).mono ?_;rintro e k ⟨rfl,f⟩;have l:=f.size;(try simp at l);have p:=bq3 f (w.heap.size);have B:=bq f (g);have S:=bq f (h);have c5:=bq f (j);have k1:¬(g=w.heap.size+1+1):=(by omega);have k2:¬(h=w.heap.size+1+1):=(by omega);have k3:¬(j=w.heap.size+1+1):=(by omega)))
    go_wp2
    exact ak 18 ((((WI.of a).mul (WI.of (x*x))).add ((WI.of d).mul (WI.of (y*y)))).add (((WI.of b).mul (WI.of (x*y))).add ((WI.of b).mul (WI.of (x*y))))).cells rfl rfl rfl underlying153 rfl aE (by go_simp) ⟨by rw[E.out],ae⟩
theorem Bl(n x y:Int)(a:I64 n)(c:I64 x)(b:I64 y):(WI.of n).sub (WI.of (x*y))=WI.of (n-x*y):=
 WI.ez ((Sm.of64 a.1 a.2).lim (by decide)) (((Sm.of64 c.1 c.2).mul (Sm.of64 b.1 b.2)).lim (by decide))
theorem pF(n x y:Int)(a:I64 n)(c:I64 x)(b:I64 y):Sm 127 (n-x*y):=
 Sm.sub ((Sm.of64 a.1 a.2).mono (by decide)) ((Sm.of64 c.1 c.2).mul (Sm.of64 b.1 b.2))
theorem DP(n x y:Int)(i:I64 n)(l:I64 x)(j:I64 y)(w:World):zR 84 #[n,x,y] w (.agg (WI.of (n-x*y)).cells):=by
 have E:=Lh (Bl n x y i l j);have o:=Lh i;have q:=Lh l;have p:=Lh j;clear i l j;go_enter func84,ntmps84;go_wp2_with fail;refine(eg _ o.out.1 o.out.2 _).mono ?_;rintro e r ⟨rfl,d⟩;have g:=d.size;(try simp at g);have k:=bq d (w.heap.size);go_wp2_with fail;refine(kQ _ _ q.out p.out _).mono ?_;rintro e t ⟨rfl,f⟩;have a:=f.size;(try simp at a);have h:=bq f (w.heap.size);go_wp2_with fail;refine(jY _ _ _).mono ?_;rintro e s ⟨rfl,b⟩;have c:=b.size;(try simp at c);have m:=bq b (w.heap.size);go_wp2
 exact ak 18 ((WI.of n).sub (WI.of (x*y))).cells rfl rfl rfl underlying153 rfl aE (by go_simp) ⟨by rw[E.out],ae⟩
def gj(a b d x y:Int):Bool:=oZ (a-x*x) (b-x*y) (d-y*y)
theorem Bu(a b d x y:Int)(p:I64 a)(q:I64 b)(o:I64 d)(i:I64 x)(g:I64 y)(w:World):zR 38 #[ei a b d,ptV x y] w (.bool (gj a b d x y)):=by
 have E:Hid (xM (WI.of (a-x*x)) (WI.of (b-x*y)) (WI.of (d-y*y))=gj a b d x y):=AZ _ _ _ (pF _ _ _ p i i) (pF _ _ _ q i g) (pF _ _ _ o g g);have u:=Lh p;have z:=Lh q;have v:=Lh o;have t:=Lh i;have s:=Lh g;clear p q o i g;go_enter func38,ntmps38;go_wp2_with fail
 go_region_held3 (fun j => j.cell? ⟨w.heap.size, 0, none⟩ = some (.int .i64 a)/\j.cell? ⟨w.heap.size, 1, none⟩ = some (.int .i64 b)/\j.cell? ⟨w.heap.size, 2, none⟩ = some (.int .i64 d)/\
     j.cell? ⟨w.heap.size+1,0,none⟩=some (.int .i64 x)/\j.cell? ⟨w.heap.size+1,1,none⟩=some (.int .i64 y)) (go_simp)
  (first
   | (go_at_call 84;refine(DP _ _ _ (by first|exact u.out|exact z.out|exact v.out) (by first|exact t.out|exact s.out) (by first|exact t.out|exact s.out) _).mono ?_;rintro e A ⟨rfl,c⟩;have k:=c.size;(try simp at k);have n:=bq c (w.heap.size);have r:=bq c (w.heap.size+1))
   | (go_at_call 88;refine(Fy _ _ _ _).mono ?_;rintro e B ⟨rfl,f⟩;have h:=f.size;(try simp at h);have l:=bq f (w.heap.size);have m:=bq f (w.heap.size+1)))
 go_wp2
 go_ret;exact⟨by rw[<-E.out];rfl,ae⟩
theorem ga(a b d:Int):oZ a b d=true↔0<=a/\0<=d/\0<=a*d-b*b:=by
 unfold oZ;simp[and_assoc]
theorem ax(a:Int):0<=a*a:=by
 rcases Int.le_total 0 a with h|h
 ·exact Int.mul_nonneg h h
 ·exact Int.mul_nonneg_of_nonpos_of_nonpos h h
def form(a b d x y:Int):Int:=a*(x*x)+d*(y*y)+(b*(x*y)+b*(x*y))
theorem qv(a b d x y:Int)(h:oZ a b d=true):0<=form a b d x y:=by
 rw[ga] at h;obtain⟨k,i,j⟩:=h;unfold form;rcases Int.lt_or_eq_of_le k with g|g
 ·have e:a*(a*(x*x)+d*(y*y)+(b*(x*y)+b*(x*y)))=(a*x+b*y)*(a*x+b*y)+(a*d-b*b)*(y*y):=by grind
  have l:=ax (a*x+b*y);have m:=Int.mul_nonneg j (ax y);rcases Int.lt_or_le (a*(x*x)+d*(y*y)+(b*(x*y)+b*(x*y))) 0 with c|c
  ·have:=Int.mul_neg_of_pos_of_neg g c;omega
  ·exact c
 ·subst g;have n:=ax b
  have f:b=0:=by
   have:b*b=0:=by omega
   rcases Int.mul_eq_zero.1 this with h|h<;>exact h
  subst f;have:=Int.mul_nonneg i (ax y);omega
theorem Bb(a b d:Int)(h:oZ a b d=false)(g:0<=form a b d 1 0)(f:0<=form a b d 0 1)(j:0<=form a b d b (-a))(t:0<=form a b d d (-b))(k:0<=form a b d 1 1)(o:0<=form a b d 1 (-1)):False:=by
 have i:form a b d 1 0=a:=by unfold form;grind
 have q:form a b d 0 1=d:=by unfold form;grind
 have n:form a b d b (-a)=a*(a*d-b*b):=by unfold form;grind
 have m:form a b d d (-b)=d*(a*d-b*b):=by unfold form;grind
 have l:form a b d 1 1=a+d+2*b:=by unfold form;grind
 have s:form a b d 1 (-1)=a+d-2*b:=by unfold form;grind
 rw[i] at g;rw[q] at f;rw[n] at j;rw[m] at t;rw[l] at k;rw[s] at o
 have c:a*d-b*b<0:=by
  rcases Int.lt_or_le (a*d-b*b) 0 with c|c
  ·exact c
  ·have:=(ga a b d).2 ⟨g,f,c⟩;rw[h] at this;cases this
 have r:a=0:=by
  rcases Int.lt_or_eq_of_le g with e|e
  ·have:=Int.mul_neg_of_pos_of_neg e c;omega
  ·exact e.symm
 have p:d=0:=by
  rcases Int.lt_or_eq_of_le f with e|e
  ·have:=Int.mul_neg_of_pos_of_neg e c;omega
  ·exact e.symm
 subst r;subst p;have:b=0:=by omega
 subst this;simp at c
theorem qu(a b d:Int)(h:∀x y,0<=form a b d x y):oZ a b d=true:=by
 cases hp:oZ a b d with
 | true=>rfl
 | false=>exact absurd (Bb a b d hp (h _ _) (h _ _) (h _ _) (h _ _) (h _ _) (h _ _)) (fun h=>h)
theorem sL(a b d x y:Int):gj a b d x y=true↔∀h k,(x*h+y*k)*(x*h+y*k)<=form a b d h k:=by
 have e:∀h k,form (a-x*x) (b-x*y) (d-y*y) h k=form a b d h k-(x*h+y*k)*(x*h+y*k):=by
  intro h k;unfold form;grind
 constructor
 ·intro c h k;have:=qv _ _ _ h k c;rw[e] at this;omega
 ·intro c;refine qu _ _ _ fun h k=>?_;rw[e];have:=c h k;omega
theorem jC(s r a b d A B D h k:Int)(u:r*a<=s*A)(p:r*d<=s*D)(n:s*B<=r*b)(m:r*b<s*B+s):r*form a b d h k<=s*form (A+1) B (D+1) h k:=by
 obtain⟨f,i⟩:∃f,s*A=r*a+f:=⟨s*A-r*a,by omega⟩;obtain⟨c,g⟩:∃c,s*D=r*d+c:=⟨s*D-r*d,by omega⟩;obtain⟨be,j⟩:∃be,s*B=r*b-be:=⟨r*b-s*B,by omega⟩
 have e:s*form (A+1) B (D+1) h k=r*form a b d h k+(f*(h*h)+c*(k*k)+((s-be)*(h*h+k*k)+be*((h-k)*(h-k)))):=by
  unfold form;have l:s*((A+1)*(h*h)+(D+1)*(k*k)+(B*(h*k)+B*(h*k)))=(s*A)*(h*h)+s*(h*h)+(s*D)*(k*k)+s*(k*k)+2*((s*B)*(h*k)):=by grind
  rw[l,i,g,j];grind
 have o:=Int.mul_nonneg (show 0<=f by omega) (ax h);have v:=Int.mul_nonneg (show 0<=c by omega) (ax k);have t:=Int.mul_nonneg (show 0<=s-be by omega) (show 0<=h*h+k*k by have:=ax h;have:=ax k;omega);have q:=Int.mul_nonneg (show 0<=be by omega) (ax (h-k));omega
theorem yA(a b d f e c h k:Int):form (a+f) (b+e) (d+c) h k=form a b d h k+form f e c h k:=by unfold form;grind
theorem Aj(s t f a g b u v K:Int)(m:0<s)(l:0<t)(o:(s+t)*f<=s*g)(d:(s+t)*a<=t*b)(i:0<=K)(n:u*u<=K*f)(j:v*v<=K*a):(u+v)*(u+v)<=K*(g+b):=by
 have c:0<s*t:=Int.mul_pos m l;have D:0<s+t:=by omega
 have r:t*(u*u)+s*(v*v)<=K*(t*f+s*a):=by
  have p:=Int.mul_le_mul_of_nonneg_left n (show 0<=t by omega);have h:=Int.mul_le_mul_of_nonneg_left j (show 0<=s by omega);have e:K*(t*f+s*a)=t*(K*f)+s*(K*a):=by grind
  omega
 have q:(s+t)*(t*f+s*a)<=s*t*(g+b):=by
  have p:=Int.mul_le_mul_of_nonneg_left o (show 0<=t by omega);have h:=Int.mul_le_mul_of_nonneg_left d (show 0<=s by omega);have w:(s+t)*(t*f+s*a)=t*((s+t)*f)+s*((s+t)*a):=by grind
  have A:s*t*(g+b)=t*(s*g)+s*(t*b):=by grind
  omega
 have C:s*t*((u+v)*(u+v))+(t*u-s*v)*(t*u-s*v)=(s+t)*(t*(u*u)+s*(v*v)):=by grind
 have x:=ax (t*u-s*v);have B:=Int.mul_le_mul_of_nonneg_left r (show 0<=s+t by omega);have E:=Int.mul_le_mul_of_nonneg_left q i;have z:(s+t)*(K*(t*f+s*a))=K*((s+t)*(t*f+s*a)):=by grind
 have y:K*(s*t*(g+b))=s*t*(K*(g+b)):=by grind
 have k:s*t*((u+v)*(u+v))<=s*t*(K*(g+b)):=by omega
 exact Int.le_of_mul_le_mul_left k c
def cdiv(x s:Int):Int:=-((-x).fdiv s)
theorem cI(x s:Int)(a:0<s):s*x.fdiv s<=x/\x<s*x.fdiv s+s:=by
 rw[Int.fdiv_eq_ediv_of_nonneg _ (by omega)];have d:=Int.mul_ediv_add_emod x s;have b:=Int.emod_nonneg x (show s≠0 by omega);have c:=Int.emod_lt_of_pos x a;omega
theorem dH(x s:Int)(a:0<s):x<=s*cdiv x s/\s*cdiv x s<x+s:=by
 have h:=cI (-x) s a;unfold cdiv;rw[Int.mul_neg];omega
structure El where
 x:Int
 y:Int
 a:Int
 b:Int
 d:Int
def El.zero:El:=⟨0,0,0,0,0⟩
def mayPt(x y:Int):Bool:=decide (-4194304<=x/\x<=4194304/\-4194304<=y/\y<=4194304)
def El.may(e:El):Bool:=mayPt e.x e.y&&decide (1<=e.a/\e.a<=70368744177664/\1<=e.d/\e.d<=70368744177664/\-70368744177664<=e.b/\e.b<=70368744177664)&&decide (0<e.a*e.d-e.b*e.b)
theorem ic(x y:Int):mayPt x y=true↔-4194304<=x/\x<=4194304/\-4194304<=y/\y<=4194304:=by unfold mayPt;simp
theorem El.aQ(e:El):e.may=true↔(-4194304<=e.x/\e.x<=4194304/\-4194304<=e.y/\e.y<=4194304)/\(1<=e.a/\e.a<=70368744177664/\1<=e.d/\e.d<=70368744177664/\-70368744177664<=e.b/\e.b<=70368744177664)/\0<e.a*e.d-e.b*e.b:=by
 unfold El.may;rw[Bool.and_eq_true,Bool.and_eq_true,ic,decide_eq_true_eq,decide_eq_true_eq,and_assoc]
def El.has(e:El)(p q:Int):Bool:=e.may&&decide (-1073741824<=p/\p<=1073741824/\-1073741824<=q/\q<=1073741824)&&gj e.a e.b e.d (p-e.x) (q-e.y)
theorem El.has_iff(e:El)(p q:Int):e.has p q=true↔e.may=true/\(-1073741824<=p/\p<=1073741824/\-1073741824<=q/\q<=1073741824)/\gj e.a e.b e.d (p-e.x) (q-e.y)=true:=by
 unfold El.has;rw[Bool.and_eq_true,Bool.and_eq_true,decide_eq_true_eq,and_assoc]
def El.tr(e:El):Int:=if e.may=true then e.a+e.d else 0
def El.rad(e:El):Int:=(up e.tr.toNat:Nat)
def dV(e f:El):El:=⟨e.x+f.x,e.y+f.y,cdiv ((e.rad+f.rad)*e.a) e.rad+cdiv ((e.rad+f.rad)*f.a) f.rad+2,((e.rad+f.rad)*e.b).fdiv e.rad+((e.rad+f.rad)*f.b).fdiv f.rad,cdiv ((e.rad+f.rad)*e.d) e.rad+cdiv ((e.rad+f.rad)*f.d) f.rad+2⟩
def sumE(e f:El):El×Int:=if e.may=true/\f.may=true then (if (dV e f).may=true then (dV e f,0) else (El.zero,2)) else (El.zero,1)
def ballE(x y r:Int):El×Int:=if mayPt x y=true/\1<=r/\r<=4194304 then (⟨x,y,r*r,0,r*r⟩,0) else (El.zero,1)
def growE(e:El)(r:Int):El×Int:=if e.may=true/\0<=r/\r<=4194304 then (if r=0 then (e,0) else sumE e (ballE 0 0 r).1) else (El.zero,1)
def ageE(e:El)(v n:Int):El×Int:=if e.may=true/\0<=v/\0<=n then (if 0<n/\(4194304:Int).tdiv n<v then (El.zero,2) else growE e (v*n)) else (El.zero,1)
theorem El.eQ(e:El)(h:e.may=true):0<e.rad:=by
 have g:=(El.aQ e).1 h;have c:=kP e.tr.toNat;have f:e.tr=e.a+e.d:=by unfold El.tr;rw[if_pos h]
 unfold El.rad;rcases Nat.eq_zero_or_pos (up e.tr.toNat) with b|b
 ·rw[b] at c;omega
 ·omega
theorem El.ml(e:El)(h:e.may=true):e.a+e.d<=e.rad*e.rad:=by
 have f:=(El.aQ e).1 h;have b:=(kP e.tr.toNat).1;have c:e.tr=e.a+e.d:=by unfold El.tr;rw[if_pos h]
 unfold El.rad;rw[<-Int.natCast_mul];omega
theorem El.fg(e:El):e.rad<=11863284:=by
 have a:e.tr<=140737488355328:=by
  unfold El.tr;split
  ·rename_i h;have:=(El.aQ e).1 h;omega
  ·decide
 have:=CD e.tr.toNat 11863284 (by omega);unfold El.rad;omega
theorem tc(e f:El)(h k:Int):form (dV e f).a (dV e f).b (dV e f).d h k =
  form (cdiv ((e.rad+f.rad)*e.a) e.rad+1) (((e.rad+f.rad)*e.b).fdiv e.rad) (cdiv ((e.rad+f.rad)*e.d) e.rad+1) h k+form (cdiv ((e.rad+f.rad)*f.a) f.rad+1) (((e.rad+f.rad)*f.b).fdiv f.rad) (cdiv ((e.rad+f.rad)*f.d) f.rad+1) h k:=by
 rw[<-yA];unfold dV;simp only;congr 1<;>omega
theorem p6(e f:El)(i:e.may=true)(j:f.may=true)(h k:Int):(e.rad+f.rad)*form e.a e.b e.d h k<=e.rad*form (cdiv ((e.rad+f.rad)*e.a) e.rad+1) (((e.rad+f.rad)*e.b).fdiv e.rad) (cdiv ((e.rad+f.rad)*e.d) e.rad+1) h k/\
   (e.rad+f.rad)*form f.a f.b f.d h k<=f.rad*form (cdiv ((e.rad+f.rad)*f.a) f.rad+1) (((e.rad+f.rad)*f.b).fdiv f.rad) (cdiv ((e.rad+f.rad)*f.d) f.rad+1) h k:=by
 have g:=e.eQ i;have c:=f.eQ j
 exact⟨jC _ _ _ _ _ _ _ _ _ _ (dH _ _ g).1 (dH _ _ g).1 (cI _ _ g).1 (cI _ _ g).2,
  jC _ _ _ _ _ _ _ _ _ _ (dH _ _ c).1 (dH _ _ c).1 (cI _ _ c).1 (cI _ _ c).2⟩
theorem ve(e f:El)(g:e.may=true)(i:f.may=true)(h k u v K:Int)(j:0<=K)(m:u*u<=K*form e.a e.b e.d h k)(l:v*v<=K*form f.a f.b f.d h k):(u+v)*(u+v)<=K*form (dV e f).a (dV e f).b (dV e f).d h k:=by
 rw[tc];have c:=p6 e f g i h k;exact Aj _ _ _ _ _ _ u v K (e.eQ g) (f.eQ i) c.1 c.2 j m l
theorem oN{e f o:El}(h:sumE e f=(o,0)):e.may=true/\f.may=true/\o=dV e f/\o.may=true:=by
 unfold sumE at h;split at h
 ·rename_i a;split at h
  ·rename_i b;injection h with h3 h4;subst h3;exact⟨a.1,a.2,rfl,b⟩
  ·injection h with h3 h4;cases h4
 ·injection h with h3 h4;cases h4
theorem El.near(e:El)(p q:Int)(h:e.has p q=true):-8388608<=p-e.x/\p-e.x<=8388608/\-8388608<=q-e.y/\q-e.y<=8388608:=by
 obtain⟨g,_,d⟩:=(El.has_iff e p q).1 h;have f:=(El.aQ e).1 g;unfold gj at d;rw[ga] at d
 have c:∀z a:Int,0<=a-z*z->a<=70368744177664->-8388608<=z/\z<=8388608:=by
  intro z a i l;constructor
  ·rcases Int.lt_or_le z (-8388608) with b|b
   ·have:(-z)*(-z)≥8388609*8388609:=Int.mul_le_mul (by omega) (by omega) (by decide) (by omega);rw[Int.neg_mul_neg] at this;omega
   ·exact b
  ·rcases Int.lt_or_le 8388608 z with b|b
   ·have:z*z≥8388609*8388609:=Int.mul_le_mul (by omega) (by omega) (by decide) (by omega);omega
   ·exact b
 have k:=c _ _ d.1 f.2.1.2.1;have j:=c _ _ d.2.1 f.2.1.2.2.2.1;omega
theorem El.CO(e:El)(p q:Int)(h:e.has p q=true)(i j:Int):((p-e.x)*i+(q-e.y)*j)*((p-e.x)*i+(q-e.y)*j)<=form e.a e.b e.d i j:=
 (sL _ _ _ _ _).1 ((El.has_iff e p q).1 h).2.2 i j
theorem MU{e f o:El}(h:sumE e f=(o,0))(p q a b:Int)(g:e.has p q=true)(c:f.has a b=true):o.has (p+a) (q+b)=true:=by
 obtain⟨k,d,rfl,m⟩:=oN h;have v:=e.near p q g;have n:=f.near a b c;have s:=(El.aQ e).1 k;have t:=(El.aQ f).1 d;refine(El.has_iff _ _ _).2 ⟨m,by omega,(sL _ _ _ _ _).2 fun i j=>?_⟩;have r:=e.CO p q g i j;have u:=f.CO a b c i j;have:=ve e f k d i j ((p-e.x)*i+(q-e.y)*j) ((a-f.x)*i+(b-f.y)*j) 1 (by decide) (by omega) (by omega)
 have l:(p+a-(dV e f).x)*i+(q+b-(dV e f).y)*j=((p-e.x)*i+(q-e.y)*j)+((a-f.x)*i+(b-f.y)*j):=by
  show(p+a-(e.x+f.x))*i+(q+b-(e.y+f.y))*j=_;grind
 rw[l];omega
theorem lu(r a s:Int)(b:0<s)(d:s<=r)(f:0<=a):a<=cdiv (r*a) s:=by
 have e:=(dH (r*a) s b).1;have c:s*a<=r*a:=Int.mul_le_mul_of_nonneg_right d f;exact Int.le_of_mul_le_mul_left (Int.le_trans c e) b
theorem vd{e f o:El}(h:sumE e f=(o,0)):e.tr+f.tr+4<=o.tr:=by
 obtain⟨b,c,rfl,j⟩:=oN h;have i:=e.eQ b;have g:=f.eQ c;have m:=(El.aQ e).1 b;have p:=(El.aQ f).1 c;unfold El.tr;rw[if_pos b,if_pos c,if_pos j];have l:=lu (e.rad+f.rad) e.a e.rad i (by omega) (by omega);have n:=lu (e.rad+f.rad) e.d e.rad i (by omega) (by omega);have q:=lu (e.rad+f.rad) f.a f.rad g (by omega) (by omega);have k:=lu (e.rad+f.rad) f.d f.rad g (by omega) (by omega);show e.a+e.d+(f.a+f.d)+4<=(cdiv ((e.rad+f.rad)*e.a) e.rad+cdiv ((e.rad+f.rad)*f.a) f.rad+2)+(cdiv ((e.rad+f.rad)*e.d) e.rad+cdiv ((e.rad+f.rad)*f.d) f.rad+2);omega
theorem mw(e:El)(h:e.may=true)(i j:Int):0<=form e.a e.b e.d i j:=by
 have m:=(El.aQ e).1 h;exact qv _ _ _ _ _ ((ga _ _ _).2 ⟨by omega,by omega,by omega⟩)
theorem qg{z r:Int}(b:0<=r)(h:z*z<=r*r):-r<=z/\z<=r:=by
 constructor
 ·rcases Int.lt_or_le z (-r) with a|a
  ·have:(r+1)*(r+1)<=(-z)*(-z):=Int.mul_le_mul (by omega) (by omega) (by omega) (by omega);rw[Int.neg_mul_neg] at this;have e:(r+1)*(r+1)=r*r+2*r+1:=by grind
   omega
  ·exact a
 ·rcases Int.lt_or_le r z with a|a
  ·have:(r+1)*(r+1)<=z*z:=Int.mul_le_mul (by omega) (by omega) (by omega) (by omega);have e:(r+1)*(r+1)=r*r+2*r+1:=by grind
   omega
  ·exact a
theorem zv(x y r:Int)(c:mayPt x y=true)(b:1<=r)(a:r<=4194304):(⟨x,y,r*r,0,r*r⟩:El).may=true:=by
 have p:=(ic x y).1 c;have f:1*1<=r*r:=Int.mul_le_mul b b (by decide) (by omega);have e:r*r<=4194304*4194304:=Int.mul_le_mul a a (by omega) (by decide);have d:1<=r*r/\r*r<=70368744177664/\1<=r*r/\r*r<=70368744177664/\(-70368744177664:Int)<=0/\(0:Int)<=70368744177664:=⟨by omega,by omega,by omega,by omega,by decide,by decide⟩;refine(El.aQ _).2 ⟨p,d,?_⟩;have:1*1<=(r*r)*(r*r):=Int.mul_le_mul (by omega) (by omega) (by decide) (by omega);simp only[Int.mul_zero,Int.sub_zero];omega
theorem L8(r u v:Int)(h:u*u+v*v<=r*r):gj (r*r) 0 (r*r) u v=true:=by
 have c:=ax u;have b:=ax v;have a:=ax r;refine(ga _ _ _).2 ⟨by omega,by omega,?_⟩;have e:(r*r-u*u)*(r*r-v*v)-(0-u*v)*(0-u*v)=(r*r)*(r*r-(u*u+v*v)):=by grind
 rw[e];exact Int.mul_nonneg a (by omega)
theorem I8(x y r u v:Int)(a:mayPt x y=true)(c:1<=r)(b:r<=4194304)(h:u*u+v*v<=r*r):(⟨x,y,r*r,0,r*r⟩:El).has (x+u) (y+v)=true:=by
 have p:=(ic x y).1 a;have f:=ax u;have e:=ax v;have g:=qg (show 0<=r by omega) (show u*u<=r*r by omega);have d:=qg (show 0<=r by omega) (show v*v<=r*r by omega);refine(El.has_iff _ _ _).2 ⟨zv x y r a c b,by omega,?_⟩;rw[show x+u-x=u by omega,show y+v-y=v by omega];exact L8 r u v h
theorem mI{e g:El}{r:Int}(h:growE e r=(g,0)):e.may=true/\0<=r/\r<=4194304/\((r=0/\g=e)∨(1<=r/\sumE e ⟨0,0,r*r,0,r*r⟩=(g,0))):=by
 unfold growE at h;split at h
 ·rename_i a;refine⟨a.1,a.2.1,a.2.2,?_⟩;split at h
  ·rename_i b;injection h with h3 h4;exact .inl ⟨b,h3.symm⟩
  ·rename_i b;right;refine⟨by omega,?_⟩
   have:ballE 0 0 r=(⟨0,0,r*r,0,r*r⟩,0):=by
    unfold ballE;rw[if_pos ⟨by decide,by omega,a.2.2⟩]
   rw[this] at h;exact h
 ·injection h with h3 h4;cases h4
theorem LQ{e g:El}{r:Int}(h:growE e r=(g,0))(p q u v:Int)(c:e.has p q=true)(j:u*u+v*v<=r*r):g.has (p+u) (q+v)=true:=by
 obtain⟨_,m,k,⟨rfl,rfl⟩|⟨d,f⟩⟩:=mI h
 ·have a:=ax u;have b:=ax v
  have l:u=0:=by
   have:u*u=0:=by omega
   rcases Int.mul_eq_zero.1 this with h|h<;>exact h
  have i:v=0:=by
   have:v*v=0:=by omega
   rcases Int.mul_eq_zero.1 this with h|h<;>exact h
  subst l;subst i;rw[Int.add_zero,Int.add_zero];exact c
 ·have:=I8 0 0 r u v (by decide) d k j;rw[Int.zero_add,Int.zero_add] at this;exact MU f p q u v c this
theorem vU{e g:El}{r:Int}(h:growE e r=(g,0))(f:r≠0):g.x=e.x/\g.y=e.y/\e.tr<g.tr/\g.may=true:=by
 obtain⟨j,l,k,⟨b,_⟩|⟨b,c⟩⟩:=mI h
 ·exact absurd b f
 ·obtain⟨_,i,a,d⟩:=oN c;have m:=vd c;refine⟨by rw[a];show e.x+0=e.x;omega,by rw[a];show e.y+0=e.y;omega,?_,d⟩
  have:0<=(⟨0,0,r*r,0,r*r⟩:El).tr:=by
   unfold El.tr;rw[if_pos i];have:=ax r;show 0<=r*r+r*r;omega
  omega
theorem qZ{e g:El}{r:Int}(h:growE e r=(g,0)):g.x=e.x/\g.y=e.y/\g.may=true:=by
 by_cases b:r=0
 ·obtain⟨a,_,_,⟨_,rfl⟩|⟨c,_⟩⟩:=mI h
  ·exact⟨rfl,rfl,a⟩
  ·omega
 ·have:=vU h b;exact⟨this.1,this.2.1,this.2.2.2⟩
theorem IS(e:El)(h:e.may=true):growE e 0=(e,0):=by unfold growE;rw [if_pos ⟨h,by decide,by decide⟩,if_pos rfl]
theorem SW{e g:El}{v n:Int}(h:ageE e v n=(g,0)):growE e (v*n)=(g,0)/\0<=v/\0<=n:=by
 unfold ageE at h;split at h
 ·rename_i a;split at h
  ·injection h with h3 h4;cases h4
  ·exact⟨h,a.2.1,a.2.2⟩
 ·injection h with h3 h4;cases h4
end Go.Proofs.YtechbdnhalmobaaGreatDoor
