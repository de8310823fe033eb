/- Laws and walks that the claim names. -/
import Derived.Test.YtilginoibhfeiaaGreatRC
namespace Go.Proofs.YtilginoibhfeiaaGreat
set_option linter.unusedSimpArgs false
open Go.RowKit
theorem mul_x (a b:Value) (x y z:WI) (w:World) (hz:Hid (x.mul y=z)) (ha:BigIs w a x) (hb:BigIs w b y) :
  Calls Tryz.prog 93 #[a,b] w fun e w'=>(∃ v,e = .returned v∧BigIs w' v z)∧Below w.heap.size w w':=by
 rw [← hz.out];exact mul_r a b x y w ha hb
theorem Rd.putRow {w:World} {s:Value} {xs:List Nat} (h:Rd w s xs) {g:Nat} {cs:Array Value} {t:TypeId} (hB:Blk w g cs t) (hn:∀ i:Nat,∀ n,cs[i]? ≠ some (.int .u32 n)) (o:Nat) (ds:Array Value):Rd (w.putRow g o ds) s xs:=by
 obtain ⟨hd,h|⟨b,o',cap,hs,h1,h2,h3,h4⟩⟩:=h
 ·exact ⟨hd,.inl h⟩
 ·refine ⟨hd,.inr ⟨b,o',cap,hs,h1,h2,by simpa using h3,fun i hi=>?_⟩⟩
  rw [cell?_putRow_other]
  ·exact h4 i hi
  ·rintro rfl
   have:=h4 i hi
   rw [hB.at] at this
   exact hn _ _ this
def bigC (x:WI) (A:Option Addr) (c:Nat):Array Value:=#[.bool x.ng,.bool x.ov,.slice A (dg x.sz).length c]
def BigAt (w:World) (g:Nat) (x:WI):Prop:=∃ A c,Blk w g (bigC x A c) 65∧Rd w (.slice A (dg x.sz).length c) (dg x.sz)
theorem BigAt.keep {w w':World} {g:Nat} {x:WI} (h:BigAt w g x) (hb:Below w.heap.size w w'):BigAt w' g x:=by
 obtain ⟨A,c,h1,h2⟩:=h;exact ⟨A,c,h1.keep hb,h2.below hb⟩
theorem BigAt.put {w:World} {g:Nat} {x:WI} (h:BigAt w g x) {y:WI} {s:Value} (hs:Rd w s (dg y.sz)) :
  BigAt (((w.setCell ⟨g,0,none⟩ (.bool y.ng)).setCell ⟨g,1,none⟩ (.bool y.ov)).setCell ⟨g,2,none⟩ s) g y:=by
 obtain ⟨A,c,h1,-⟩:=h
 obtain ⟨A',c',rfl⟩:=hs.form
 exact ⟨A',c',((h1.setCell_same 0 _).setCell_same 1 _).setCell_same 2 _,hs.set3 (h1.cell (i:=0) rfl) (h1.cell (i:=1) rfl) (h1.cell (i:=2) rfl) _ _ _⟩
theorem BigAt.putRow {w:World} {g b:Nat} {x:WI} (h:BigAt w g x) {cs:Array Value} {t:TypeId} (hB:Blk w b cs t) (hn:∀ i:Nat,∀ n,cs[i]? ≠ some (.int .u32 n)) (hne:g≠b) (ds:Array Value):BigAt (w.putRow b 0 ds) g x:=by
 obtain ⟨A,c,h1,h2⟩:=h;exact ⟨A,c,h1.putRow_other hne _ _,h2.putRow hB hn _ _⟩
set_option linter.unusedSimpArgs false
open Go.RowKit
def NumsAt (w:World) (A:Option Addr) (len:Nat) (T:Nat→Int):Prop :=
 ∀ i,i<len→∃ b o,A=some ⟨b,o,none⟩∧b<w.heap.size∧w.cell? ⟨b,o+i,none⟩=some (.int .i64 (T i)) ∧ -9223372036854775808≤T i∧T i≤9223372036854775807
theorem NumsAt.below {w w':World} {A:Option Addr} {len:Nat} {T:Nat→Int} (h:NumsAt w A len T) (hb:Below w.heap.size w w'):NumsAt w' A len T:=fun i hi=>by
 obtain ⟨b,o,e,h1,h2,h3⟩:=h i hi
 exact ⟨b,o,e,Nat.lt_of_lt_of_le h1 hb.size,(hb.cell (p:=⟨b,_,none⟩) h1).trans h2,h3⟩
def partsZ (T:Nat→Int):Nat→WI
 | 0=>WI.of 0
 | k+1=>((partsZ T k).mul (WI.of 4611686018427387904)).add (WI.of (T k))
def NumIs (w:World) (v:Value) (z:WI):Prop:=∃ A len cap T K,v = .agg #[.slice A len cap,.int .i64 K] ∧ -9223372036854775808≤K∧len≤9223372036854775807∧NumsAt w A len T∧z=(partsZ T (min len 17)).shl K
theorem NumIs.below {w w':World} {v:Value} {z:WI} (h:NumIs w v z) (hb:Below w.heap.size w w'):NumIs w' v z:=by
 obtain ⟨A,len,cap,T,K,h1,h2,h3,h4,h5⟩:=h
 exact ⟨A,len,cap,T,K,h1,h2,h3,h4.below hb,h5⟩
end Go.Proofs.YtilginoibhfeiaaGreat
