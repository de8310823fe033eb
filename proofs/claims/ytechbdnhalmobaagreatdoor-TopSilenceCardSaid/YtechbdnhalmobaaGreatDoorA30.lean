/- Walks. -/
import Derived.Shelf.Strings.Split
import Derived.Shelf.Strconv.ParseIntPublic10
import Derived.Shelf.Strconv.Itoa4
import Derived.Shelf.Strconv.Itoa3
import Derived.Lib.UnsafeStr
import Derived.Test.YtechbdnhalmobaaGreatDoorA33
namespace Go.Proofs.YtechbdnhalmobaaGreatDoor
set_option linter.unusedSimpArgs false
set_option linter.unusedVariables false
set_option maxRecDepth 100000
set_option maxHeartbeats 16000000
open Go.Proofs.Tryz
open Go.RowKit Go.Shelf
open Go.RowKit Go.Maps
def Iv:Go.Shelf.Ren:=⟨fun|146=>50|221=>96|268=>162|138=>163|143=>164|195=>215|197=>216|218=>217|219=>218|260=>279|217=>280|225=>281|224=>282|267=>283|266=>321|314=>322|n=>n,fun|9=>9|31=>107|3=>3|4=>4|0=>0|105=>301|21=>21|5=>5|46=>233|119=>391|139=>394|138=>393|146=>395|51=>256|n=>n,fun|1=>0|3=>4|4=>5|n=>n⟩
theorem TC:Go.Proofs.Lays.n146 prog Iv:={mixed:=by kernel_rfl,f138:=func163.trans (congrArg some (by kernel_rfl)),f143:=func164.trans (congrArg some (by kernel_rfl)),f146:=func50.trans (congrArg some (by kernel_rfl)),f195:=func215.trans (congrArg some (by kernel_rfl)),f197:=func216.trans (congrArg some (by kernel_rfl)),f217:=func280.trans (congrArg some (by kernel_rfl)),f218:=func217.trans (congrArg some (by kernel_rfl)),f219:=func218.trans (congrArg some (by kernel_rfl)),f221:=func96.trans (congrArg some (by kernel_rfl)),f224:=func282.trans (congrArg some (by kernel_rfl)),f225:=func281.trans (congrArg some (by kernel_rfl)),f260:=func279.trans (congrArg some (by kernel_rfl)),f266:=func321.trans (congrArg some (by kernel_rfl)),f267:=func283.trans (congrArg some (by kernel_rfl)),f268:=func162.trans (congrArg some (by kernel_rfl)),f314:=func322.trans (congrArg some (by kernel_rfl)),t0:=underlying0,a0:=isAgg0,z0:=sizeOf0,v0:=zeroValue0,t3:=underlying3,a3:=isAgg3,z3:=sizeOf3,v3:=zeroValue3,t4:=underlying4,a4:=isAgg4,z4:=sizeOf4,v4:=zeroValue4,t5:=underlying5,a5:=isAgg5,z5:=sizeOf5,v5:=zeroValue5,t9:=underlying9,a9:=isAgg9,z9:=sizeOf9,v9:=zeroValue9,t21:=underlying21,a21:=isAgg21,z21:=sizeOf21,v21:=zeroValue21,t31:=underlying107,a31:=isAgg107,z31:=sizeOf107,v31:=zeroValue107,t46:=underlying233,a46:=isAgg233,z46:=sizeOf233,v46:=zeroValue233,t51:=underlying256,a51:=isAgg256,z51:=sizeOf256,v51:=zeroValue256,t105:=underlying301,a105:=isAgg301,z105:=sizeOf301,v105:=zeroValue301,t119:=underlying391,a119:=isAgg391,z119:=sizeOf391,t138:=underlying393,a138:=isAgg393,z138:=sizeOf393,v138:=zeroValue393,t139:=underlying394,a139:=isAgg394,z139:=sizeOf394,v139:=zeroValue394,t146:=underlying395,a146:=isAgg395,z146:=sizeOf395,v146:=zeroValue395,g1:=by kernel_rfl,g3:=by kernel_rfl,g4:=by kernel_rfl}
def LE:Go.Shelf.Ren:=⟨fun|174=>223|247=>288|245=>289|287=>325|279=>326|280=>327|281=>328|282=>329|321=>339|322=>340|316=>341|171=>95|205=>342|243=>161|246=>165|283=>219|284=>220|285=>221|286=>222|129=>240|317=>284|318=>285|319=>286|320=>287|337=>323|338=>324|n=>n,fun|9=>9|3=>3|2=>2|75=>310|85=>311|4=>4|167=>397|5=>5|53=>53|175=>398|46=>233|168=>400|37=>36|0=>0|210=>418|21=>21|127=>364|145=>429|143=>427|171=>304|173=>307|212=>361|51=>256|20=>20|213=>362|232=>413|233=>414|80=>170|n=>n,fun|15=>8|16=>9|17=>1|18=>6|19=>7|n=>n⟩
theorem TU:Go.Proofs.LaysC.n174 prog LE:={mixed:=by kernel_rfl,f129:=func240.trans (congrArg some (by kernel_rfl)),f171:=func95.trans (congrArg some (by kernel_rfl)),f174:=func223.trans (congrArg some (by kernel_rfl)),f205:=func342.trans (congrArg some (by kernel_rfl)),f243:=func161.trans (congrArg some (by kernel_rfl)),f245:=func289.trans (congrArg some (by kernel_rfl)),f246:=func165.trans (congrArg some (by kernel_rfl)),f247:=func288.trans (congrArg some (by kernel_rfl)),f279:=func326.trans (congrArg some (by kernel_rfl)),f280:=func327.trans (congrArg some (by kernel_rfl)),f281:=func328.trans (congrArg some (by kernel_rfl)),f282:=func329.trans (congrArg some (by kernel_rfl)),f283:=func219.trans (congrArg some (by kernel_rfl)),f284:=func220.trans (congrArg some (by kernel_rfl)),f285:=func221.trans (congrArg some (by kernel_rfl)),f286:=func222.trans (congrArg some (by kernel_rfl)),f287:=func325.trans (congrArg some (by kernel_rfl)),f316:=func341.trans (congrArg some (by kernel_rfl)),f317:=func284.trans (congrArg some (by kernel_rfl)),f318:=func285.trans (congrArg some (by kernel_rfl)),f319:=func286.trans (congrArg some (by kernel_rfl)),f320:=func287.trans (congrArg some (by kernel_rfl)),f321:=func339.trans (congrArg some (by kernel_rfl)),f322:=func340.trans (congrArg some (by kernel_rfl)),f337:=func323.trans (congrArg some (by kernel_rfl)),f338:=func324.trans (congrArg some (by kernel_rfl)),t0:=underlying0,a0:=isAgg0,z0:=sizeOf0,v0:=zeroValue0,t2:=underlying2,a2:=isAgg2,z2:=sizeOf2,v2:=zeroValue2,t3:=underlying3,a3:=isAgg3,z3:=sizeOf3,v3:=zeroValue3,t4:=underlying4,a4:=isAgg4,z4:=sizeOf4,v4:=zeroValue4,t5:=underlying5,a5:=isAgg5,z5:=sizeOf5,v5:=zeroValue5,t9:=underlying9,a9:=isAgg9,z9:=sizeOf9,v9:=zeroValue9,t20:=underlying20,a20:=isAgg20,z20:=sizeOf20,v20:=zeroValue20,t21:=underlying21,a21:=isAgg21,z21:=sizeOf21,v21:=zeroValue21,t37:=underlying36,a37:=isAgg36,z37:=sizeOf36,v37:=zeroValue36,t46:=underlying233,a46:=isAgg233,z46:=sizeOf233,v46:=zeroValue233,t51:=underlying256,a51:=isAgg256,z51:=sizeOf256,v51:=zeroValue256,t53:=underlying53,a53:=isAgg53,z53:=sizeOf53,v53:=zeroValue53,t75:=underlying310,a75:=isAgg310,z75:=sizeOf310,v75:=zeroValue310,t85:=underlying311,a85:=isAgg311,z85:=sizeOf311,v85:=zeroValue311,t127:=underlying364,a127:=isAgg364,z127:=sizeOf364,v127:=zeroValue364,t143:=underlying427,a143:=isAgg427,z143:=sizeOf427,v143:=zeroValue427,t145:=underlying429,a145:=isAgg429,z145:=sizeOf429,v145:=zeroValue429,t167:=underlying397,a167:=isAgg397,z167:=sizeOf397,v167:=zeroValue397,t168:=underlying400,a168:=isAgg400,z168:=sizeOf400,v168:=zeroValue400,t171:=underlying304,a171:=isAgg304,z171:=sizeOf304,v171:=zeroValue304,t173:=underlying307,a173:=isAgg307,z173:=sizeOf307,v173:=zeroValue307,t175:=underlying398,a175:=isAgg398,z175:=sizeOf398,v175:=zeroValue398,t210:=underlying418,a210:=isAgg418,z210:=sizeOf418,v210:=zeroValue418,t212:=underlying361,a212:=isAgg361,z212:=sizeOf361,v212:=zeroValue361,t213:=underlying362,a213:=isAgg362,z213:=sizeOf362,t232:=underlying413,a232:=isAgg413,z232:=sizeOf413,v232:=zeroValue413,t233:=underlying414,a233:=isAgg414,z233:=sizeOf414,v233:=zeroValue414,g15:=by kernel_rfl,g16:=by kernel_rfl,g17:=by kernel_rfl,g18:=by kernel_rfl,g19:=by kernel_rfl,t80:=underlying170,a80:=isAgg170,z80:=sizeOf170,v80:=zeroValue170,i0:=by kernel_rfl,i2:=by kernel_rfl,i3:=by kernel_rfl,i4:=by kernel_rfl,i5:=by kernel_rfl,i9:=by kernel_rfl,i20:=by kernel_rfl,i21:=by kernel_rfl,i37:=by kernel_rfl,i46:=by kernel_rfl,i51:=by kernel_rfl,i53:=by kernel_rfl,i75:=by kernel_rfl,i80:=by kernel_rfl,i85:=by kernel_rfl,i127:=by kernel_rfl,i143:=by kernel_rfl,i145:=by kernel_rfl,i167:=by kernel_rfl,i168:=by kernel_rfl,i171:=by kernel_rfl,i173:=by kernel_rfl,i175:=by kernel_rfl,i210:=by kernel_rfl,i212:=by kernel_rfl,i232:=by kernel_rfl,i233:=by kernel_rfl,m15:=by kernel_rfl,m16:=by kernel_rfl,m17:=by kernel_rfl,m18:=by kernel_rfl,m19:=by kernel_rfl,c0:=by kernel_rfl,c2:=by kernel_rfl,c3:=by kernel_rfl,c4:=by kernel_rfl,c5:=by kernel_rfl,c9:=by kernel_rfl,c20:=by kernel_rfl,c21:=by kernel_rfl,c37:=by kernel_rfl,c46:=by kernel_rfl,c51:=by kernel_rfl,c53:=by kernel_rfl,c75:=by kernel_rfl,c80:=by kernel_rfl,c85:=by kernel_rfl,c127:=by kernel_rfl,c143:=by kernel_rfl,c145:=by kernel_rfl,c167:=by kernel_rfl,c168:=by kernel_rfl,c171:=by kernel_rfl,c173:=by kernel_rfl,c175:=by kernel_rfl,c210:=by kernel_rfl,c212:=by kernel_rfl,c213:=by kernel_rfl,c232:=by kernel_rfl,c233:=by kernel_rfl}
def NE:Go.Shelf.Ren:=⟨fun|173=>98|246=>165|283=>219|284=>220|285=>221|286=>222|129=>240|317=>284|318=>285|319=>286|320=>287|337=>323|338=>324|n=>n,fun|2=>2|3=>3|9=>9|4=>4|171=>304|0=>0|53=>53|37=>36|5=>5|173=>307|212=>361|51=>256|20=>20|213=>362|46=>233|232=>413|233=>414|n=>n,fun|17=>1|18=>6|19=>7|n=>n⟩
theorem Va:Go.Proofs.Lays.n173 prog NE:={mixed:=by kernel_rfl,f129:=func240.trans (congrArg some (by kernel_rfl)),f173:=func98.trans (congrArg some (by kernel_rfl)),f246:=func165.trans (congrArg some (by kernel_rfl)),f283:=func219.trans (congrArg some (by kernel_rfl)),f284:=func220.trans (congrArg some (by kernel_rfl)),f285:=func221.trans (congrArg some (by kernel_rfl)),f286:=func222.trans (congrArg some (by kernel_rfl)),f317:=func284.trans (congrArg some (by kernel_rfl)),f318:=func285.trans (congrArg some (by kernel_rfl)),f319:=func286.trans (congrArg some (by kernel_rfl)),f320:=func287.trans (congrArg some (by kernel_rfl)),f337:=func323.trans (congrArg some (by kernel_rfl)),f338:=func324.trans (congrArg some (by kernel_rfl)),t0:=underlying0,a0:=isAgg0,z0:=sizeOf0,v0:=zeroValue0,t2:=underlying2,a2:=isAgg2,z2:=sizeOf2,v2:=zeroValue2,t3:=underlying3,a3:=isAgg3,z3:=sizeOf3,v3:=zeroValue3,t4:=underlying4,a4:=isAgg4,z4:=sizeOf4,v4:=zeroValue4,t5:=underlying5,a5:=isAgg5,z5:=sizeOf5,v5:=zeroValue5,t9:=underlying9,a9:=isAgg9,z9:=sizeOf9,v9:=zeroValue9,t20:=underlying20,a20:=isAgg20,z20:=sizeOf20,v20:=zeroValue20,t37:=underlying36,a37:=isAgg36,z37:=sizeOf36,v37:=zeroValue36,t46:=underlying233,a46:=isAgg233,z46:=sizeOf233,v46:=zeroValue233,t51:=underlying256,a51:=isAgg256,z51:=sizeOf256,v51:=zeroValue256,t53:=underlying53,a53:=isAgg53,z53:=sizeOf53,v53:=zeroValue53,t171:=underlying304,a171:=isAgg304,z171:=sizeOf304,v171:=zeroValue304,t173:=underlying307,a173:=isAgg307,z173:=sizeOf307,v173:=zeroValue307,t212:=underlying361,a212:=isAgg361,z212:=sizeOf361,v212:=zeroValue361,t213:=underlying362,a213:=isAgg362,z213:=sizeOf362,t232:=underlying413,a232:=isAgg413,z232:=sizeOf413,v232:=zeroValue413,t233:=underlying414,a233:=isAgg414,z233:=sizeOf414,v233:=zeroValue414,g17:=by kernel_rfl,g18:=by kernel_rfl,g19:=by kernel_rfl}
def NA:Go.Shelf.Ren:=⟨fun|171=>95|243=>161|246=>165|283=>219|284=>220|285=>221|286=>222|129=>240|317=>284|318=>285|319=>286|320=>287|337=>323|338=>324|n=>n,fun|3=>3|9=>9|2=>2|4=>4|171=>304|0=>0|53=>53|37=>36|5=>5|173=>307|212=>361|51=>256|20=>20|213=>362|46=>233|232=>413|233=>414|n=>n,fun|17=>1|18=>6|19=>7|n=>n⟩
theorem U7:Go.Proofs.Lays.n171 prog NA:={mixed:=by kernel_rfl,f129:=func240.trans (congrArg some (by kernel_rfl)),f171:=func95.trans (congrArg some (by kernel_rfl)),f243:=func161.trans (congrArg some (by kernel_rfl)),f246:=func165.trans (congrArg some (by kernel_rfl)),f283:=func219.trans (congrArg some (by kernel_rfl)),f284:=func220.trans (congrArg some (by kernel_rfl)),f285:=func221.trans (congrArg some (by kernel_rfl)),f286:=func222.trans (congrArg some (by kernel_rfl)),f317:=func284.trans (congrArg some (by kernel_rfl)),f318:=func285.trans (congrArg some (by kernel_rfl)),f319:=func286.trans (congrArg some (by kernel_rfl)),f320:=func287.trans (congrArg some (by kernel_rfl)),f337:=func323.trans (congrArg some (by kernel_rfl)),f338:=func324.trans (congrArg some (by kernel_rfl)),t0:=underlying0,a0:=isAgg0,z0:=sizeOf0,v0:=zeroValue0,t2:=underlying2,a2:=isAgg2,z2:=sizeOf2,v2:=zeroValue2,t3:=underlying3,a3:=isAgg3,z3:=sizeOf3,v3:=zeroValue3,t4:=underlying4,a4:=isAgg4,z4:=sizeOf4,v4:=zeroValue4,t5:=underlying5,a5:=isAgg5,z5:=sizeOf5,v5:=zeroValue5,t9:=underlying9,a9:=isAgg9,z9:=sizeOf9,v9:=zeroValue9,t20:=underlying20,a20:=isAgg20,z20:=sizeOf20,v20:=zeroValue20,t37:=underlying36,a37:=isAgg36,z37:=sizeOf36,v37:=zeroValue36,t46:=underlying233,a46:=isAgg233,z46:=sizeOf233,v46:=zeroValue233,t51:=underlying256,a51:=isAgg256,z51:=sizeOf256,v51:=zeroValue256,t53:=underlying53,a53:=isAgg53,z53:=sizeOf53,v53:=zeroValue53,t171:=underlying304,a171:=isAgg304,z171:=sizeOf304,v171:=zeroValue304,t173:=underlying307,a173:=isAgg307,z173:=sizeOf307,v173:=zeroValue307,t212:=underlying361,a212:=isAgg361,z212:=sizeOf361,v212:=zeroValue361,t213:=underlying362,a213:=isAgg362,z213:=sizeOf362,t232:=underlying413,a232:=isAgg413,z232:=sizeOf413,v232:=zeroValue413,t233:=underlying414,a233:=isAgg414,z233:=sizeOf414,v233:=zeroValue414,g17:=by kernel_rfl,g18:=by kernel_rfl,g19:=by kernel_rfl}
theorem TB:(prog.info? (Iv.t 9)).map (fun i=>(i.zero,i.size,i.bytes))=some (some (.string ByteArray.empty),1,16):=by kernel_rfl
abbrev xZ:ByteArray:={data:=#[32]}
theorem Q8(s:ByteArray)(m:Int)(w:World)(c:s.size<4294967281)(b:w.cell? ⟨0,0,none⟩=some (.int .i64 m)):Calls prog 50 #[.string s,.string xZ] w fun e a=>e=.returned (.slice (some ⟨w.heap.size,0,none⟩) (Lib.countB s xZ+1) (Lib.countB s xZ+1))/\a=w.alloc (.cells ((Lib.splitB xZ 0 (Lib.countB s xZ) s).map Value.string).toArray 9):=
 Any.strings_Split TC TB s xZ m w c b (by decide)
theorem Ry(s:ByteArray)(v:Int)(w:World)(c:s.size<=1000000)(h:Lib.parseIntB 64 s.data.toList=.ok v):zR 223 #[.string s,.int .i64 10,.int .i64 64] w (.tuple #[v,.nilIface]):=
 (Any.strconv_ParseInt_10_at64_ok TU s (by omega) v h w).mono (by
  rintro e b ⟨rfl,rfl|⟨t,rfl⟩⟩
  ·exact⟨rfl,Below.refl _ _⟩
  ·refine⟨rfl,?_⟩
   have a:zB w (w.drew.alloc (.cells (Lib.bytesCells w 5 t) 5)):=(Below.refl _ _).drew.alloc (by simp) _
   unfold Lib.bytesWorld
   exact Lib.below_freeze a (Nat.le_refl _) 1)
theorem Uj(i:Nat)(b:i<100)(w:World):Calls prog 98 #[i,.int .i64 10] w fun e a=>e=.returned (.string ⟨(Lib.decDigits i).toArray⟩)/\a=w:=Any.strconv_FormatInt_10_small Va i b w
theorem Ue(i:Nat)(b:i<100)(w:World):Calls prog 95 #[i] w fun e a=>e=.returned (.string ⟨(Lib.decDigits i).toArray⟩)/\a=w:=Any.strconv_Itoa_small U7 i b w
abbrev AA(k n:Int):Value:=.agg #[k,.int .i64 0,n,.int .i64 0,.int .i64 0,.int .i64 0,.int .i64 0,.int .i64 0,.int .i64 0,.int .i64 0,.int .i64 0,.int .i64 0,.int .i64 0,.int .u8 0,.slice none 0 0]
def lh(w0:World)(c g tw ta:Nat)(gs:List Nat)(nv bv:Value)(nodes:Int)(F:FleetD)(wr:World):Prop:=
 ∃owr,cY owr wr g tw ta gs nv bv F/\Blk wr c #[ptr g,nodes] 105/\owr c=0/\zB w0 wr/\∀k,k<w0.heap.size->owr k=0
section
variable {ow:Nat->Nat} {w0 w wr:World} {c g tw ta:Nat} {gs:List Nat} {nv bv:Value} {nodes:Int} {F F':FleetD}
theorem lh.fl(h:lh w0 c g tw ta gs nv bv nodes F wr):∃a,FlO a wr g tw ta gs nv bv F wr/\∀F' d,FlO a wr g tw ta gs nv bv F' d->lh w0 c g tw ta gs nv bv nodes F' d:=by
 obtain⟨a,p,n,l,j,m⟩:=h;refine⟨a,⟨a,p,FT.refl⟩,?_⟩;rintro F' d ⟨i,o,f⟩;obtain⟨j1,j2⟩:=f.blk n (by rw[l];exact M5);exact⟨i,o,j1,j2.trans l,f.below j (Nat.le_refl _) (fun k b=>by rw[m k b];exact M5),fun k b=>(f.e k (Nat.lt_of_lt_of_le b j.size)).trans (m k b)⟩
theorem lh.below(h:lh w0 c g tw ta gs nv bv nodes F wr){a:World}(hb:zB wr a):lh w0 c g tw ta gs nv bv nodes F a:=by
 obtain⟨d,e,b⟩:=h.fl;exact b _ _ (e.below hb)
theorem lh.cells(h:lh w0 c g tw ta gs nv bv nodes F wr):wr.cell? ⟨c,0,none⟩=some (ptr g)/\wr.cell? ⟨c,1,none⟩=some (.int .i64 nodes)/\c<wr.heap.size:=by
 obtain⟨b,d,a,-⟩:=h;exact⟨a.cell rfl,a.cell rfl,a.lt⟩
theorem lh.bel(h:lh w0 c g tw ta gs nv bv nodes F wr):zB w0 wr:=by
 obtain⟨a,f,d,e,b,i⟩:=h;exact b
theorem JF{q n C:Nat}{A:Option Addr}{a:Bool}(B:Blk w q #[.slice A n C,a] 114)(d:n=0)(f:a=false):Calls prog 168 #[ptr q] w fun e b=>e=.returned (.bool true)/\b=w:=by
 subst d;subst f;obtain⟨h,j,i,-⟩:=cz B;clear B;go_enter func168,ntmps168;go_wp2
 go_ret;exact⟨rfl,rfl⟩
theorem QK{q b o a:Nat}{s:ByteArray}(B:Blk w q #[.slice (some ⟨b,o,none⟩) 1 a,false] 114)(i:w.cell? ⟨b,o,none⟩=some (.string s))(f:1<=a):Calls prog 169 #[ptr q] w fun e d=>e=.returned (.string s)/\∃A C,ah q w d/\Blk d q #[.slice A 0 C,false] 114:=by
 obtain⟨j,m,l,-⟩:=cz B;have k:(1:Int)<=(a:Int):=by omega
 have Hq:=Lh B;clear B;go_enter func169,ntmps169;go_wp2_with fail;all_goals go_ret
 all_goals exact⟨rfl,ah.refl.setCell 0 _,_,_,(Hq.out.ab 0 _).of_eq rfl⟩
theorem Oj{q b o j:Nat}{s:ByteArray}(i:Nat)(H:i<100)(u:s=⟨(Lib.decDigits i).toArray⟩)(v:Lib.parseIntB 64 s.data.toList=.ok (i:Int))(z:s.size<=1000000)(B:Blk w q #[.slice (some ⟨b,o,none⟩) 1 j,false] 114)(p:w.cell? ⟨b,o,none⟩=some (.string s))(l:1<=j):Calls prog 167 #[ptr q] w fun e d=>e=.returned (.int .i64 i)/\∃A C,bg (fun k=>k=q) w d/\Blk d q #[.slice A 0 C,false] 114:=by
 have I:Hid (Calls prog 169 #[ptr q] w fun e d=>e=.returned (.string s)/\∃A C,ah q w d/\Blk d q #[.slice A 0 C,false] 114):=QK B p l;have E:Hid (∀a,zR 223 #[.string s,.int .i64 10,.int .i64 64] a (.tuple #[i,.nilIface])):=fun a=>Ry s i a z v;have G:Hid (∀a,Calls prog 98 #[i,.int .i64 10] a fun e d=>e=.returned (.string s)/\d=a):=fun a=>by rw[u];exact Uj i H a
 clear u v B p;go_enter func167,ntmps167;go_wp2_with fail;refine I.out.mono ?_;rintro e a ⟨rfl,A,C,n,y⟩;have K:=Lh y;have D:=Lh n;clear n y;go_wp2_with fail;refine(E.out _).mono ?_;rintro e m ⟨rfl,f⟩;have t:=Lh (K.out.keep f);have L:Hid (bg (fun k=>k=q) w m):=(show bg (fun k=>k=q) w m from((bg.refl (S:=fun k=>k=q)).gZ D.out (.inl rfl)).wg f);clear f;obtain⟨N,M,P,-⟩:=cz t.out;go_wp2_with (go_at_call 98;refine(G.out _).mono ?_;rintro e O ⟨rfl,h⟩;have J:=h.symm;subst J)
 go_ret;refine⟨rfl,?_⟩;have r:=L.out.gZ (w'':=m.setCell ⟨q,1,none⟩ (.bool false)) (ah.refl.setCell 1 _) (.inl rfl);have x:Blk (m.setCell ⟨q,1,none⟩ (.bool false)) q #[.slice A 0 C,.bool false] 114:=(t.out.ab 1 _).of_eq rfl
 first|exact⟨_,_,r,x⟩|exact⟨r,_,_,x⟩
end
section
variable {ow:Nat->Nat} {w wr:World} {g tw ta:Nat} {gs:List Nat} {nv bv:Value} {F:FleetD} (H:FlO ow w g tw ta gs nv bv F wr)
include H
theorem PM:Calls prog 43 #[ptr g] wr fun e b=>e=.returned (.int .i64 F.a.length)/\b=wr:=by
 obtain⟨p,n,l,d,k,q,m⟩:=H.cells
 have c:Hid (Calls prog 92 #[ptr ta] wr fun e b=>e=.returned (.int .i64 F.a.length)/\b=wr):=by
  obtain⟨f,i,-⟩:=H;exact I9 i.a
 clear H;go_enter func43,ntmps43;go_wp2_with (go_at_call 92;refine c.out.mono ?_;rintro e o ⟨rfl,h⟩;have j:=h.symm;subst j)
 go_ret;exact⟨rfl,rfl⟩
theorem PR(i:Nat)(d:i<F.n.length):Calls prog 24 #[ptr g,i] wr fun e h=>e=.returned (.bool true)/\h=wr:=by
 obtain⟨s,m,f,c,l,t,o⟩:=H.cells;obtain⟨b,a,-⟩:=id H;have k:=a.ln;obtain⟨p,cn,rfl⟩:=kh a.rn;have j:(i:Int)<(gs.length:Int):=by omega
 have r:¬(i:Int)<0:=by omega
 have q:(0:Int)<=(i:Int):=by omega
 clear H a k d;go_enter func24,ntmps24;go_wp2
 go_ret;exact⟨by first|rfl|(simp[j];done),rfl⟩
theorem C0(i:Nat)(b:i<F.n.length):Calls prog 10 #[ptr g,i] wr fun e c=>e=.returned (ptr (gs.getD i 0))/\c=wr:=by
 obtain⟨y,s,m,l,r,A,t⟩:=H.cells;have k:Hid (Calls prog 24 #[ptr g,i] wr fun e c=>e=.returned (.bool true)/\c=wr):=PR H i b;obtain⟨j,f,-⟩:=id H;have q:=f.ln;obtain⟨nb,cn,rfl,p,d⟩:=H.node b;obtain⟨gk,a⟩:∃z,gs.getD i 0=z:=⟨_,rfl⟩;rw[a] at d ⊢;have x:(i:Int)<(gs.length:Int):=by omega
 have u:(0:Int)<=(i:Int):=by omega
 clear H f q b a;go_enter func10,ntmps10;go_wp2_with (go_at_call 24;refine k.out.mono ?_;rintro e v ⟨rfl,h⟩;have o:=h.symm;subst o)
 go_ret;exact⟨rfl,rfl⟩
theorem Tl(d:cV F)(i:Nat)(f:i<F.n.length)(b:Bool)(j:F.on[i]?=some b):Calls prog 44 #[ptr g,i] wr fun e c=>e=.returned (.bool b)/\c=wr:=by
 obtain⟨z,s,o,m,r,A,u⟩:=H.cells;have l:Hid (Calls prog 24 #[ptr g,i] wr fun e c=>e=.returned (.bool true)/\c=wr):=PR H i f;obtain⟨t,co,rfl,k,q⟩:=H.on j;have a:=d.lo;have y:(i:Int)<(F.on.length:Int):=by omega
 have v:(0:Int)<=(i:Int):=by omega
 clear H d a f j;go_enter func44,ntmps44;go_wp2_with (go_at_call 24;refine l.out.mono ?_;rintro e x ⟨rfl,h⟩;have p:=h.symm;subst p)
 go_ret;exact⟨rfl,rfl⟩
theorem KZ(i:Nat)(x y:Int)(d:F.w.p[i]?=some (x,y)):zR 45 #[ptr g,i] wr (.tuple #[.agg #[x,y],true]):=by
 obtain⟨r,o,l,k,n,s,q⟩:=H.cells
 have j:zX wr 55 #[ptr tw,i] (.tuple #[.agg #[x,y],true]):=fun h m=>by
  obtain⟨S,pv,mv,f⟩:=(H.below m).tru;exact Ko f i x y d
 clear H d;go_enter func45,ntmps45;go_wp2_with fail;refine(j.out _ ad).mono ?_;rintro e h ⟨rfl,b⟩;have a:=b.size;(try simp at a);have c:=bq b (wr.heap.size);go_wp2_with fail;exact az 2 #[.int .i64 x,.int .i64 y] (.bool true) rfl rfl rfl rfl underlying31 rfl (by kernel_rfl) rc2 ⟨rfl,ad⟩
theorem IT(i:Nat)(n:NodeD)(b:F.n[i]?=some n)(j:dA n.t):Calls prog 11 #[ptr (gs.getD i 0)] wr fun e a=>∃A c,e=.returned (Kw n (.slice A n.t.ents.length c))/\zB wr a:=by
 obtain⟨f,h,-⟩:=H;obtain⟨L,d⟩:=h.n i n b;exact TW d j
end
section
variable {w:World} {g:Nat} {P:World->Prop}
theorem Mw(d:∀a,zB w a->Calls prog 30 #[ptr g] a fun e b=>e=.returned (.int .i64 0)/\P b):Calls prog 12 #[ptr g,AA 2 0] w fun e b=>e=.returned (.int .i64 0)/\P b:=by
 have h:Hid (∀a,zB w a->Calls prog 30 #[ptr g] a fun e b=>e=.returned (.int .i64 0)/\Hid (P b)):=d;clear d;go_enter func12,ntmps12;go_wp2_with fail;refine(h.out _ ad).mono ?_;rintro e a ⟨rfl,f⟩;go_wp2_with fail;go_ret;exact⟨rfl,f.out⟩
end
section
variable {w0 W w:World} {c g tw ta:Nat} {gs:List Nat} {nv bv:Value} {nodes:Int}
theorem Qk(n:Nat)(N:n<100)(Fs:Nat->FleetD)(D:lh w0 c g tw ta gs nv bv nodes (Fs 0) W)(J:zB W w){q b o i:Nat}(Z:W.heap.size<=q)(s:ByteArray)(G:s=⟨(Lib.decDigits n).toArray⟩)(H:Lib.parseIntB 64 s.data.toList=.ok (n:Int))(L:s.size<=1000000)(B:Blk w q #[.slice (some ⟨b,o,none⟩) 1 i,false] 114)(E:w.cell? ⟨b,o,none⟩=some (.string s))(l:1<=i)(K:∀j,j<n->∀d,lh w0 c g tw ta gs nv bv nodes (Fs j) d->Calls prog 12 #[ptr g,AA 2 0] d fun e a=>e=.returned (.int .i64 0)/\lh w0 c g tw ta gs nv bv nodes (Fs (j+1)) a):Calls prog 101 #[ptr c,ptr q] w fun e a=>e=.returned (.string ⟨#[111,107]⟩)/\lh w0 c g tw ta gs nv bv nodes (Fs n) a:=by
 have O:Hid (Calls prog 167 #[ptr q] w fun e a=>e=.returned (.int .i64 n)/\∃A C,bg (fun k=>k=q) w a/\Blk a q #[.slice A 0 C,false] 114):=Oj n N G H L B E l;have t:Hid (∀j,j<n->∀d,lh w0 c g tw ta gs nv bv nodes (Fs j) d->Calls prog 12 #[ptr g,AA 2 0] d fun e a=>e=.returned (.int .i64 0)/\Hid (lh w0 c g tw ta gs nv bv nodes (Fs (j+1)) a)):=K;have m:=Lh D;have T:=Lh J;obtain⟨F,M,U,-⟩:=cz B;have n1:¬((n:Int)<0):=by omega
 have X:¬((1000:Int)<(n:Int)):=by omega
 clear D J G H B E K;go_enter func101,ntmps101;go_wp2_with fail;refine O.out.mono ?_;rintro e d ⟨rfl,A,C,z,I⟩;have r:Hid (zB W d):=z.below T.out (Nat.le_refl _) (fun k e=>by have e:k=q:=e;omega);have S:=Lh I;clear z I F M U;have x:Hid (Calls prog 168 #[ptr q] d fun e a=>e=.returned (.bool true)/\a=d):=JF S.out rfl rfl;go_wp2_with (go_at_call 168;refine x.out.mono ?_;rintro e Q ⟨rfl,h⟩;have R:=h.symm;subst R)
 go_loopw [28] (fun f wr=>∃j:Nat,j<=n/\f=.int .i64 j/\Hid (lh w0 c g tw ta gs nv bv nodes (Fs j) wr)) (fun f _=>n-(intOf f).toNat)
 case atStart=>exact⟨0,by omega,rfl,m.out.below r.out⟩
 case round=>
  obtain⟨j,Y,rfl,p⟩:=hrel;obtain⟨q0,V,F⟩:=p.out.cells;by_cases u:j<n
  ·have j1:(j:Int)<(n:Int):=by omega
   go_wp2_with fail;refine(t.out j u _ p.out).mono ?_;rintro e Q ⟨rfl,v⟩;go_wp2_with fail;go_roundw
   case rel=>exact⟨j+1,by omega,by go_num,v⟩
   case measure=>exact(by first|(simp[intOf];done)|(simp[intOf];omega))
  ·have y:j=n:=by omega
   subst y;have j1:¬((j:Int)<(j:Int)):=by omega
   go_wp2_with fail;go_ret;exact⟨rfl,p.out⟩
theorem Qo(n:Nat)(M:n<100)(K:(⟨(Lib.decDigits n).toArray⟩:ByteArray).size<=1000)(Fs:Nat->FleetD)(D:lh w0 c g tw ta gs nv bv nodes (Fs 0) W)(G:zB W w)(H:(Fs 0).a.length=n){q C:Nat}{A:Option Addr}(B:Blk w q #[.slice A 0 C,false] 114)(I:∀j,j<n->∀d,lh w0 c g tw ta gs nv bv nodes (Fs j) d->Calls prog 12 #[ptr g,AA 3 0] d fun e b=>e=.returned (.int .i64 0)/\lh w0 c g tw ta gs nv bv nodes (Fs (j+1)) b):Calls prog 106 #[ptr c,ptr q] w fun e b=>e=.returned (.string (⟨#[111,107,32]⟩++⟨(Lib.decDigits n).toArray⟩))/\lh w0 c g tw ta gs nv bv nodes (Fs n) b:=by
 have p:Hid (∀j,j<n->∀d,lh w0 c g tw ta gs nv bv nodes (Fs j) d->Calls prog 12 #[ptr g,AA 3 0] d fun e b=>e=.returned (.int .i64 0)/\Hid (lh w0 c g tw ta gs nv bv nodes (Fs (j+1)) b)):=I;have f:Hid (lh w0 c g tw ta gs nv bv nodes (Fs 0) w):=D.below G;have t:Hid (Calls prog 168 #[ptr q] w fun e b=>e=.returned (.bool true)/\b=w):=JF B rfl rfl
 have v:Hid (Calls prog 43 #[ptr g] w fun e b=>e=.returned (.int .i64 n)/\b=w):=by
  obtain⟨J,O,-⟩:=f.out.fl;have:=PM O;rw[H] at this;exact this
 have m:Hid (∀d,Calls prog 95 #[n] d fun e b=>e=.returned (.string ⟨(Lib.decDigits n).toArray⟩)/\b=d):=fun d=>Ue n M d;obtain⟨y,l⟩:∃y:ByteArray,(⟨(Lib.decDigits n).toArray⟩:ByteArray)=y:=⟨_,rfl⟩;rw[l] at m K ⊢;have L:¬9223372036854775807<3+y.size:=by omega
 obtain⟨F,z,E⟩:=f.out.cells;clear D G H B I l;go_enter func106,ntmps106
 go_wp2_with (first
  | (go_at_call 168;refine t.out.mono ?_;rintro e u ⟨rfl,h⟩;have k:=h.symm;subst k)
  | (go_at_call 43;refine v.out.mono ?_;rintro e u ⟨rfl,h⟩;have k:=h.symm;subst k))
 clear F z E;go_loopw [5,6,16] (fun Q N i wr=>∃j:Nat,j<=n/\Q=.int .i64 j/\N=.int .i64 0/\i=.int .i64 j/\Hid (lh w0 c g tw ta gs nv bv nodes (Fs j) wr)) (fun _ _ i _=>n-(intOf i).toNat)
 case atStart=>exact⟨0,by omega,rfl,rfl,rfl,f⟩
 case round=>
  obtain⟨j,R,rfl,rfl,rfl,o⟩:=hrel;obtain⟨F,z,E⟩:=o.out.cells;by_cases r:j<n
  ·have j1:(j:Int)<(n:Int):=by omega
   go_wp2_with fail;refine(p.out j r _ o.out).mono ?_;rintro e u ⟨rfl,s⟩;go_wp2_with fail;go_roundw
   case rel=>exact⟨j+1,by omega,by go_num,rfl,by go_num,s⟩
   case measure=>exact(by first|(simp[intOf];done)|(simp[intOf];omega))
  ·have x:j=n:=by omega
   subst x;have j1:¬((j:Int)<(j:Int)):=by omega
   go_wp2_with (go_at_call 95;refine(m.out _).mono ?_;rintro e u ⟨rfl,h⟩;have k:=h.symm;subst k)
   all_goals go_ret
   all_goals exact⟨rfl,o.out⟩
end
section
variable {w0 W w wr:World} {c g tw ta:Nat} {gs:List Nat} {nv bv:Value} {nodes:Int} {F:FleetD}
theorem Qg(H:lh w0 c g tw ta gs nv bv nodes F wr)(i:Nat)(n:NodeD)(b:F.n[i]?=some n)(k:n.fv=false)(l:dA n.t):zR 111 #[ptr c,i] wr (.string ⟨#[108,111,115,116]⟩):=by
 obtain⟨o,f,-⟩:=H.fl;obtain⟨gk,a⟩:∃z,gs.getD i 0=z:=⟨_,rfl⟩
 have q:Hid (Calls prog 10 #[ptr g,i] wr fun e d=>e=.returned (ptr gk)/\d=wr):=by
  have:=C0 f i (List.getElem?_eq_some_iff.1 b).1;rw[a] at this;exact this
 have u:Hid (Calls prog 11 #[ptr gk] wr fun e d=>∃A c,e=.returned (Kw n (.slice A n.t.ents.length c))/\zB wr d):=by
  rw[<-a];exact IT f i n b l
 obtain⟨D,x,B⟩:=H.cells;have v:=Lh k;clear H f b l a k;go_enter func111,ntmps111;go_wp2_with fail;refine q.out.mono ?_;rintro e y ⟨rfl,h⟩;have s:=h.symm;subst s;go_wp2_with fail;refine u.out.mono ?_;rintro e C ⟨A,r,rfl,j⟩;have m:=v.out;have p:=j.size;go_wp2_with fail;go_ret;exact⟨rfl,ad⟩
theorem Ve(j:lh w0 c g tw ta gs nv bv nodes F W)(P:zB W w){q b o m:Nat}(hq:W.heap.size<=q)(i:Nat)(n:NodeD)(G:F.n[i]?=some n)(L:n.fv=false)(M:dA n.t)(U:i<100)(s:ByteArray)(N:s=⟨(Lib.decDigits i).toArray⟩)(O:Lib.parseIntB 64 s.data.toList=.ok (i:Int))(R:s.size<=1000000)(B:Blk w q #[.slice (some ⟨b,o,none⟩) 1 m,false] 114)(K:w.cell? ⟨b,o,none⟩=some (.string s))(p:1<=m):Calls prog 110 #[ptr c,ptr q,.func (.func 111) #[ptr c] #[]] w fun e a=>e=.returned (.string ⟨#[108,111,115,116]⟩)/\lh w0 c g tw ta gs nv bv nodes F a:=by
 have T:Hid (∀d,zB W d->Calls prog 111 #[ptr c,i] d fun e a=>e=.returned (.string ⟨#[108,111,115,116]⟩)/\Hid (lh w0 c g tw ta gs nv bv nodes F a)):=fun d v=>(Qg (j.below v) i n G L M).mono (by rintro e a ⟨rfl,y⟩;exact⟨rfl,(j.below v).below y⟩);have D:Hid (Calls prog 167 #[ptr q] w fun e a=>e=.returned (.int .i64 i)/\∃A C,bg (fun k=>k=q) w a/\Blk a q #[.slice A 0 C,false] 114):=Oj i U N O R B K p;obtain⟨gk,l⟩:∃z,gs.getD i 0=z:=⟨_,rfl⟩
 have I:Hid (∀d,zB W d->Calls prog 10 #[ptr g,i] d fun e a=>e=.returned (ptr gk)/\a=d):=fun d v=>by
  obtain⟨Q,y,-⟩:=(j.below v).fl;have:=C0 y i (List.getElem?_eq_some_iff.1 G).1;rw[l] at this;exact this
 have x:=Lh j;have X:=Lh P;clear j P G L M N O B K l;go_enter func110,ntmps110;go_wp2_with fail
 have E:Hid (Calls prog 103 #[ptr q] w fun e a=>e=.returned (.int .i64 i)/\∃A C,bg (fun k=>k=q) w a/\Blk a q #[.slice A 0 C,false] 114):=by
  show Calls _ _ _ _ _;go_enter func103,ntmps103;go_wp2_with fail;refine D.out.mono ?_;rintro e d ⟨rfl,A,C,r,u⟩;go_wp2_with fail;go_ret;exact⟨rfl,A,C,r,u⟩
 refine E.out.mono ?_;rintro e d ⟨rfl,A,C,r,u⟩;have f:Hid (zB W d):=r.below X.out (Nat.le_refl _) (fun k e=>by have e:k=q:=e;omega);have H:Hid (Calls prog 168 #[ptr q] d fun e a=>e=.returned (.bool true)/\a=d):=JF u rfl rfl;obtain⟨q0,Y,Z⟩:=(x.out.below f.out).cells;clear r u;go_wp2_with fail;refine H.out.mono ?_;rintro e V ⟨rfl,h⟩;have J:=h.symm;subst J;go_wp2_with fail;refine(I.out _ f.out).mono ?_;rintro e V ⟨rfl,h⟩;have J:=h.symm;subst J;go_wp2_with fail;refine(T.out _ f.out).mono ?_;rintro e w3 ⟨rfl,S⟩;go_wp2_with fail;go_ret;exact⟨rfl,S.out⟩
end
section
variable {w0 W w wr:World} {c g tw ta:Nat} {gs:List Nat} {nv bv:Value} {F:FleetD}
theorem SA(N:Nat)(hN:N<=64)(H:lh w0 c g tw ta gs nv bv (N:Int) F w)(OK:cV F)(hS:∀i,i<N->∃n x y,F.n[i]?=some n/\F.w.p[i]?=some (x,y)/\dA n.t/\F.on[i]?=some true/\(n.fv=true->n.fe.has x y=true)):Calls prog 97 #[ptr c] w fun e l=>e=.returned (.string ⟨#[121,101,115]⟩)/\lh w0 c g tw ta gs nv bv (N:Int) F l:=by
 have HH:=Lh H;have HO:=Lh OK;have HS:=Lh hS;obtain⟨q0,q1,y1⟩:=H.cells;clear H OK hS;go_enter func97,ntmps97;go_wp2_with fail;clear q0 q1 y1;go_loopw [11] (fun E wr=>∃k:Nat,k<=N/\E=.int .i64 k/\Hid (lh w0 c g tw ta gs nv bv (N:Int) F wr)) (fun E _=>N-(intOf E).toNat)
 case atStart=>exact⟨0,by omega,rfl,HH⟩
 case round=>
  obtain⟨k,hk,rfl,r⟩:=hrel;by_cases S:k<N
  ·have k1:(k:Int)<(N:Int):=by omega
   obtain⟨n,x,y,U,hp,hT,Q,X⟩:=HS.out k S;obtain⟨gk,C⟩:∃z,gs.getD k 0=z:=⟨_,rfl⟩;have s:=(List.getElem?_eq_some_iff.1 U).1
   have HP:zX wr 45 #[ptr g,k] (.tuple #[.agg #[x,y],true]):=fun a m=>by
    obtain⟨v,u,-⟩:=(r.out.below m).fl;exact KZ u k x y hp
   have HN:Hid (∀a,zB wr a->Calls prog 10 #[ptr g,k] a fun e l=>e=.returned (ptr gk)/\l=a):=fun a m=>by
    obtain⟨v,u,-⟩:=(r.out.below m).fl;have:=C0 u k s;rw[C] at this;exact this
   have HR:Hid (∀a,zB wr a->Calls prog 11 #[ptr gk] a fun e l=>∃A c,e=.returned (Kw n (.slice A n.t.ents.length c))/\zB a l):=fun a m=>by
    obtain⟨v,u,-⟩:=(r.out.below m).fl;rw[<-C];exact IT u k n U hT
   have J:Hid (∀a,zB wr a->Calls prog 44 #[ptr g,k] a fun e l=>e=.returned (.bool true)/\l=a):=fun a m=>by
    obtain⟨v,u,-⟩:=(r.out.below m).fl;exact Tl u HO.out k s true Q
   obtain⟨fv,B⟩:∃z,n.fv=z:=⟨_,rfl⟩;obtain⟨⟨fx,Z,fa,T,Y⟩,I⟩:∃z,n.fe=z:=⟨_,rfl⟩;obtain⟨tl,M⟩:∃z,n.t.ents.length=z:=⟨_,rfl⟩
   have L:Hid (∀a,zB wr a->Calls prog 11 #[ptr gk] a fun e l=>∃A c,e=.returned (.agg #[fv,fx,Z,fa,T,Y,.slice A tl c])/\zB a l):=fun a m=>by
    have:=HR.out a m;unfold Kw at this;rw[B,I,M] at this;exact this
   rw[B,I] at X;have O:Hid (fv=true->∀a,zR 15 #[elC fx Z fa T Y,ptV x y] a (.bool true)):=fun h a=>BI _ _ _ _ _ _ _ _ (X h) a;obtain⟨q0,q1,y1⟩:=r.out.cells;clear U hp hT Q X C s B I M HR;cases fv with
   | false=>
    go_wp2_with (first
     | (go_at_call 45;refine(HP.out _ ad).mono ?_;rintro e a ⟨rfl,f⟩;have j:=f.size;(try simp at j);have q:=bq f (c))
     | (go_at_call 10;refine(HN.out _ ad).mono ?_;rintro e w2 ⟨rfl,h⟩;have G:=h.symm;subst G)
     | (go_at_call 11;refine(L.out _ ad).mono ?_;rintro e w3 ⟨A,cp,rfl,b⟩;have d:=b.size;(try simp at d);have o:=bq b (c);have D:=bq b (a.heap.size))
     | (go_at_call 44;refine(J.out _ ad).mono ?_;rintro e w4 ⟨rfl,h⟩;have G:=h.symm;subst G))
    go_roundw
    case rel=>exact⟨k+1,by omega,by go_num,r.out.below ad⟩
    case measure=>exact(by first|(simp[intOf];done)|(simp[intOf];omega))
   | true=>
    have a0:Hid (∀a,zR 15 #[elC fx Z fa T Y,ptV x y] a (.bool true)):=O.out rfl;clear O
    go_wp2_with (first
     | (go_at_call 45;refine(HP.out _ ad).mono ?_;rintro e a ⟨rfl,f⟩;have j:=f.size;(try simp at j);have q:=bq f (c))
     | (go_at_call 10;refine(HN.out _ ad).mono ?_;rintro e w2 ⟨rfl,h⟩;have G:=h.symm;subst G)
     | (go_at_call 11;refine(L.out _ ad).mono ?_;rintro e w3 ⟨A,cp,rfl,b⟩;have d:=b.size;(try simp at d);have o:=bq b (c);have D:=bq b (a.heap.size))
     | (go_at_call 44;refine(J.out _ ad).mono ?_;rintro e w4 ⟨rfl,h⟩;have G:=h.symm;subst G)
     | (go_at_call 15;refine(a0.out _).mono ?_;rintro e w5 ⟨rfl,P⟩;have K:=P.size;(try simp at K);have R:=bq P (c)))
    go_roundw
    case rel=>exact⟨k+1,by omega,by go_num,r.out.below ad⟩
    case measure=>exact(by first|(simp[intOf];done)|(simp[intOf];omega))
  ·have V:k=N:=by omega
   subst V;have k1:¬((k:Int)<(k:Int)):=by omega
   go_wp2_with fail;go_ret;exact⟨rfl,r.out⟩
end
abbrev OU:ByteArray:={data:=#[116,105,99,107]}
abbrev Lz:ByteArray:={data:=#[102,108,117,115,104]}
abbrev Ly:ByteArray:={data:=#[119,104,101,114,101]}
abbrev OV:ByteArray:={data:=#[115,117,114,101]}
section
variable {w:World} {c q:Nat} {r:ByteArray} {P:World->Prop}
theorem Mb(H:Calls prog 97 #[ptr c] w fun e a=>e=.returned (.string r)/\P a):Calls prog 51 #[ptr c,.string OV] w fun e a=>e=.returned (.tuple #[.string r,true])/\P a:=by
 have d:Hid (Calls prog 97 #[ptr c] w fun e a=>e=.returned (.string r)/\Hid (P a)):=H;clear H;go_enter func51,ntmps51;go_wp2_with fail;refine d.out.mono ?_;rintro e f ⟨rfl,b⟩;go_wp2_with fail;go_ret2
 exact⟨rfl,b.out⟩
theorem Ma:Calls prog 51 #[ptr c,.string OU] w fun e a=>e=.returned (.tuple #[.string ⟨#[]⟩,false])/\a=w:=by
 go_enter func51,ntmps51;go_wp2_with fail;go_ret2
 exact⟨rfl,rfl⟩
theorem Lj:Calls prog 51 #[ptr c,.string Lz] w fun e a=>e=.returned (.tuple #[.string ⟨#[]⟩,false])/\a=w:=by
 go_enter func51,ntmps51;go_wp2_with fail;go_ret2
 exact⟨rfl,rfl⟩
theorem Li:Calls prog 51 #[ptr c,.string Ly] w fun e a=>e=.returned (.tuple #[.string ⟨#[]⟩,false])/\a=w:=by
 go_enter func51,ntmps51;go_wp2_with fail;go_ret2
 exact⟨rfl,rfl⟩
theorem OW(H:Calls prog 101 #[ptr c,ptr q] w fun e a=>e=.returned (.string r)/\P a):Calls prog 52 #[ptr c,.string OU,ptr q] w fun e a=>e=.returned (.string r)/\P a:=by
 have d:Hid (Calls prog 101 #[ptr c,ptr q] w fun e a=>e=.returned (.string r)/\Hid (P a)):=H;clear H;go_enter func52,ntmps52;go_wp2_with fail;refine d.out.mono ?_;rintro e f ⟨rfl,b⟩;go_wp2_with fail;go_ret;exact⟨rfl,b.out⟩
theorem M4(H:Calls prog 106 #[ptr c,ptr q] w fun e a=>e=.returned (.string r)/\P a):Calls prog 52 #[ptr c,.string Lz,ptr q] w fun e a=>e=.returned (.string r)/\P a:=by
 have d:Hid (Calls prog 106 #[ptr c,ptr q] w fun e a=>e=.returned (.string r)/\Hid (P a)):=H;clear H;go_enter func52,ntmps52;go_wp2_with fail;refine d.out.mono ?_;rintro e f ⟨rfl,b⟩;go_wp2_with fail;go_ret;exact⟨rfl,b.out⟩
theorem M3(H:Calls prog 110 #[ptr c,ptr q,.func (.func 111) #[ptr c] #[]] w fun e a=>e=.returned (.string r)/\P a):Calls prog 52 #[ptr c,.string Ly,ptr q] w fun e a=>e=.returned (.string r)/\P a:=by
 have d:Hid (Calls prog 110 #[ptr c,ptr q,.func (.func 111) #[ptr c] #[]] w fun e a=>e=.returned (.string r)/\Hid (P a)):=H;clear H;go_enter func52,ntmps52;go_wp2_with fail;refine d.out.mono ?_;rintro e f ⟨rfl,b⟩;go_wp2_with fail;go_ret;exact⟨rfl,b.out⟩
end
theorem RU:(prog.info? 9).map (fun i=>(i.zero,i.size,i.bytes))=some (some (.string ByteArray.empty),1,16):=by kernel_rfl
theorem Q6(s:ByteArray):∀u∈[Value.string s],u.oneCell'=true:=by intro u a;simp at a;subst a;rfl
section
variable {w:World} {c:Nat} {r:ByteArray} {P:World->Prop}
theorem Px(s a:ByteArray)(d:List ByteArray)(a6:Lib.splitB xZ 0 (Lib.countB s xZ) s=a :: d)(hn:Lib.countB s xZ=d.length)(Z:∀x∈a :: d,x.toList.isEmpty=false)(hl:d.length<=100)(hs:s.size<=2500)(m:Int)(hm:w.cell? ⟨0,0,none⟩=some (.int .i64 m))(HH:((∀f,zB w f->Calls prog 51 #[ptr c,.string a] f fun e l=>e=.returned (.tuple #[.string ⟨#[]⟩,false])/\l=f)/\ (∀f q b C,zB w f->w.heap.size<=q->d.length<=C->Blk f q #[.slice b d.length C,false] 114->(∀j x,d[j]?=some x->∃g o,b=some ⟨g,o,none⟩/\f.cell? ⟨g,o+j,none⟩=some (.string x))-> Calls prog 52 #[ptr c,.string a,ptr q] f fun e l=>e=.returned (.string r)/\P l))∨(d.length=0/\∀f,zB w f->Calls prog 51 #[ptr c,.string a] f fun e l=>e=.returned (.tuple #[.string r,true])/\P l)):Calls prog 22 #[ptr c,.string s] w fun e l=>e=.returned (.string r)/\P l:=by
 have a7:Hid (∀f,zB w f->Calls prog 50 #[.string s,.string xZ] f fun e l=>e=.returned (.slice (some ⟨f.heap.size,0,none⟩) (d.length+1) (d.length+1))/\l=f.alloc (.cells ((a :: d).map Value.string).toArray 9)):=fun f hb=>by
  have:=Q8 s m f (by omega) ((hb.cell (p:=⟨0,0,none⟩) (World.block_lt_of_cell? _ _ hm)).trans hm);rw[a6,hn] at this;exact this
 obtain⟨i0,hi,b0,a9,a8⟩:=info_parts RU
 have L : Hid (((∀ f, zB w f->Calls prog 51 #[ptr c, .string a] f fun e l => e = .returned (.tuple #[.string ⟨#[]⟩, .bool false])/\l = f)/\
     (∀f q b C,zB w f->w.heap.size<=q->d.length<=C->Blk f q #[.slice b d.length C,false] 114->(∀j x,d[j]?=some x->∃g o,b=some ⟨g,o,none⟩/\f.cell? ⟨g,o+j,none⟩=some (.string x))->
     Calls prog 52 #[ptr c,.string a,ptr q] f fun e l=>e=.returned (.string r)/\Hid (P l)))∨
     (d.length=0/\∀f,zB w f->Calls prog 51 #[ptr c,.string a] f fun e l=>e=.returned (.tuple #[.string r,true])/\Hid (P l))):=HH
 have S:=Lh Z;have b6:¬(2500:Int)<(s.size:Int):=by omega
 clear a6 hn hm HH Z;go_enter func22,ntmps22;go_wp2_with fail;refine(a7.out _ (Below.refl _ _)).mono ?_;rintro e w1 ⟨rfl,h⟩;obtain⟨v,F⟩:∃v,a :: d=v:=⟨_,rfl⟩;have a2:v.length=d.length+1:=by rw[<-F];rfl
 rw[F] at h S;have BS:Hid (Blk w1 w.heap.size (v.map Value.string).toArray 9):=by rw[h];exact Blk.new _ _ _
 have a3:Hid (zB w w1):=by rw[h];show Below _ _ _;exact ad
 have N:=Lh F;have X:=Lh a2;clear h F a2;go_wp2_with fail;go_loopw [5,19] (fun t5 K wr=>∃j:Nat,j<=d.length+1/\K=.int .i64 j/\Hid (wr.ownsRow (w.heap.size+1) 9 1 t5 j ((v.take j).map Value.string))/\Hid (Blk wr w.heap.size (v.map Value.string).toArray 9)/\Hid (zB w wr)) (fun _ K _=>d.length+1-(intOf K).toNat)
 case atStart=>exact⟨0,by omega,rfl,⟨rfl,.inl ⟨rfl,rfl⟩⟩,BS,a3⟩
 case round=>
  obtain⟨j,hj,rfl,t,A,n⟩:=hrel;clear BS a3;by_cases b2:j<d.length+1
  ·obtain⟨x,hx⟩:∃x,v[j]?=some x:=⟨_,List.getElem?_eq_getElem (by have:=X.out;omega)⟩;have hc:wr.cell? ⟨w.heap.size,j,none⟩=some (.string x):=(A.out.at j).trans (by rw[List.getElem?_toArray,List.getElem?_map,hx];rfl);have b7:x.toList.isEmpty=false:=S.out x (List.mem_of_getElem? hx);have y0:=A.out.lt;have z:=n.out.size;have j1:(j:Int)<(d.length:Int)+1:=by omega
   have j2:(0:Int)<=(j:Int):=by omega
   have V:Hid ((v.take (j+1)).map Value.string=(v.take j).map Value.string++[.string x]):=by show _=_;rw[List.take_add_one,hx];simp
   clear hx;go_wp2_with (at_builtin;refine wpList_append_own _ rfl _ _ 107 rfl (w.heap.size+1) 9 i0 (.string ByteArray.empty) 1 16 underlying107 hi b0 a9 a8 rfl (by decide) _ j _ rfl (cv t.out ((Below.refl _ _).alloc (Nat.le_refl _) _)) ⟨wr.heap.size,0,none⟩ 1 1 _ rfl rfl (te (Blk.new _ _ _)) (Q6 x) (by unfold maxLen;omega) (by omega) (by simp;omega) ?_)
   intro v' w5 I u a1
   have a4:Hid (Blk w5 w.heap.size (v.map Value.string).toArray 9):=by
    have J:Blk (wr.alloc (Obj.cells #[Value.string x] 9)) w.heap.size (v.map Value.string).toArray 9:=A.out.alloc _;exact(u.block _ J.lt (fun e=>by have:=xA t.out _ e.symm;omega)).trans J
   have a0:Hid (zB w w5):=xE (Nat.le_refl _) (n.out.alloc z _) u (fun g e=>by have:=xA t.out g e;omega)
   have Y:Hid (w5.ownsRow (w.heap.size+1) 9 1 v' (j+1) ((v.take (j+1)).map Value.string)):=by
    show World.ownsRow _ _ _ _ _ _ _;rw[V.out];simpa using I
   clear I u a1 t A n V;go_wp2_with fail;go_roundw
   case rel=>exact⟨j+1,by omega,by go_num,Y,a4,a0⟩
   case measure=>first|exact(by first|(simp[intOf];done)|(simp[intOf];omega))|(simp[intOf];omega)
  ·have b4:j=d.length+1:=by omega
   subst b4;have B:=t.out;rw[List.take_of_length_le (by have:=X.out;omega)] at B;obtain⟨G,H,rfl⟩:=xB B (by omega)
   have y:Hid (∀i x,v[i]?=some x->wr.cell? ⟨G,i,none⟩=some (.string x)):=fun i x h=>by
    obtain⟨g2,c2,Q,-,-,E⟩:=zV B (k:=i) (x:=.string x) (by rw[List.getElem?_map,h];rfl);injection Q with Q _ _
    injection Q with Q
    injection Q with Q
    subst Q;exact E
   have b5:d.length+1<=H:=by
    obtain⟨-,⟨E,-⟩|⟨b,c2,b8,E,-,-,h3,-⟩⟩:=B
    ·cases E
    ·injection E with _ _ h4;omega
   have q0:wr.cell? ⟨G,0,none⟩=some (.string a):=y.out 0 a (by rw[<-N.out];rfl);have n1:¬((d.length:Int)+1=0):=by omega
   have n2:(0:Int)<(d.length:Int)+1:=by omega
   rcases L.out with ⟨HA,HR⟩|⟨b3,HA⟩
   ·clear L;have R:Hid (Calls prog 51 #[ptr c,.string a] wr fun e l=>e=.returned (.tuple #[.string ⟨#[]⟩,false])/\l=wr):=HA wr n.out;have z:=n.out.size;have D:=Lh HR;clear B t A HA HR;go_wp2_with (go_at_call 51;refine R.out.mono ?_;rintro e w2 ⟨rfl,h⟩;have h9:=h.symm;subst h9)
    have HL:Hid (v[0]?=some a/\∀j x,d[j]?=some x->v[1+j]?=some x):=by
     refine⟨by rw[<-N.out];rfl,fun j x h=>?_⟩;rw[<-N.out,Nat.add_comm];simpa using h
    rcases Nat.lt_or_ge 1 H with T|T
    ·have m1:(1:Int)<=(H:Int):=by omega
     have m2:¬(H=1):=by omega
     have m3:¬(H-1=0):=by omega
     have m4:(1:Int)<=(d.length:Int)+1:=by omega
     have m5:(d.length:Int)+1<=(H:Int):=by omega
     have a5:G<wr.heap.size:=World.block_lt_of_cell? _ _ q0
     have M:Hid (∀W,zB wr W->Blk W wr.heap.size #[.slice (some ⟨G,1,none⟩) d.length (H-1),false] 114->Calls prog 52 #[ptr c,.string a,ptr wr.heap.size] W fun e l=>e=.returned (.string r)/\Hid (P l)):=fun W J E=>
      D.out W _ _ _ (n.out.trans (J.mono z)) z (by omega) E (fun j x h=>⟨G,1,rfl,(J.cell (p:=⟨G,1+j,none⟩) a5).trans (y.out _ _ (HL.out.2 j x h))⟩)
     clear D;go_region_with (go_at_call 52;refine(M.out _ ad cC).mono ?_;rintro e w3 ⟨rfl,hp⟩)
     all_goals go_wp2_with fail
     all_goals go_ret
     all_goals exact⟨rfl,hp.out⟩
    ·have a5:G<wr.heap.size:=World.block_lt_of_cell? _ _ q0;have U:H=1:=by omega
     subst U;have O:d.length=0:=by omega
     have b1:d=[]:=List.eq_nil_of_length_eq_zero O;subst b1
     have M:Hid (∀W,zB wr W->Blk W wr.heap.size #[.slice (some ⟨G,0,none⟩) 0 0,false] 114->Calls prog 52 #[ptr c,.string a,ptr wr.heap.size] W fun e l=>e=.returned (.string r)/\Hid (P l)):=fun W J E=>
      D.out W _ _ _ (n.out.trans (J.mono z)) z (Nat.le_refl _) E (fun j x h=>by simp at h)
     clear D O n1 n2 T b5 hj b2;simp only[List.length_nil,Nat.zero_add,Int.natCast_zero,Int.zero_add];go_region_with (go_at_call 52;refine(M.out _ ad cC).mono ?_;rintro e w3 ⟨rfl,hp⟩)
     all_goals go_wp2_with fail
     all_goals go_ret
     all_goals exact⟨rfl,hp.out⟩
   ·clear L;have R:Hid (Calls prog 51 #[ptr c,.string a] wr fun e l=>e=.returned (.tuple #[.string r,true])/\Hid (P l)):=HA wr n.out;have O:(d.length:Int)=0:=by omega
    clear B t A HA b3 n1 n2;go_wp2_with fail;refine R.out.mono ?_;rintro e w2 ⟨rfl,hp⟩;go_wp2_with fail;go_ret;exact⟨rfl,hp.out⟩
theorem IM(s a:ByteArray)(d:List ByteArray)(k:Lib.splitB xZ 0 (Lib.countB s xZ) s=a :: d)(n:Lib.countB s xZ=d.length)(i:∀x∈a :: d,x.toList.isEmpty=false)(v:d.length<=100)(t:s.size<=2500)(m:Int)(p:w.cell? ⟨0,0,none⟩=some (.int .i64 m))(l:∀f,zB w f->Calls prog 51 #[ptr c,.string a] f fun e h=>e=.returned (.tuple #[.string ⟨#[]⟩,false])/\h=f)(u:∀f q b C,zB w f->w.heap.size<=q->d.length<=C->Blk f q #[.slice b d.length C,false] 114->(∀j x,d[j]?=some x->∃g o,b=some ⟨g,o,none⟩/\f.cell? ⟨g,o+j,none⟩=some (.string x))-> Calls prog 52 #[ptr c,.string a,ptr q] f fun e h=>e=.returned (.string r)/\P h):Calls prog 22 #[ptr c,.string s] w fun e h=>e=.returned (.string r)/\P h:=Px s a d k n i v t m p (.inl ⟨l,u⟩)
theorem Py(s a:ByteArray)(b:List ByteArray)(g:Lib.splitB xZ 0 (Lib.countB s xZ) s=a :: b)(i:Lib.countB s xZ=b.length)(f:∀x∈a :: b,x.toList.isEmpty=false)(n:b.length<=100)(k:b.length=0)(o:s.size<=2500)(m:Int)(j:w.cell? ⟨0,0,none⟩=some (.int .i64 m))(l:∀h,zB w h->Calls prog 51 #[ptr c,.string a] h fun e d=>e=.returned (.tuple #[.string r,true])/\P d):Calls prog 22 #[ptr c,.string s] w fun e d=>e=.returned (.string r)/\P d:=Px s a b g i f n o m j (.inr ⟨k,l⟩)
end
theorem Uw(n l m:Int)(h1:l<=n)(h2:n<=m)(w:World):Calls prog 174 #[n,l,m] w fun e a=>e=.returned (.bool true)/\a=w:=by
 go_enter func174,ntmps174;go_wp2
 go_ret;exact⟨by simp[h2],rfl⟩
theorem Ov(c:Cfg)(h:c.may=true)(w:World):zR 114 #[If c] w (.bool true):=by
 obtain⟨o,s,v,M,a,q,b,B,J,d,l⟩:=c;simp only[Cfg.may,ks,Bool.and_eq_true,decide_eq_true_eq] at h;obtain⟨⟨⟨⟨⟨⟨⟨⟨⟨⟨⟨⟨L,p⟩,N,K⟩,r,O⟩,Q,R⟩,u,D⟩,G,P⟩,z,F⟩,n,I⟩,t,A⟩,C,x⟩,g,m⟩,j⟩:=h;have i:0<=d*(b+2*a+2):=Int.mul_nonneg (by omega) (by omega);have f:IntKind.i64.wrap (2*a)=2*a:=IntWalk.i64_in _ (by omega);have H:IntKind.i64.wrap (b+2*a)=b+2*a:=IntWalk.i64_in _ (by omega);have E:IntKind.i64.wrap (b+2*a+2)=b+2*a+2:=IntWalk.i64_in _ (by omega);have y:IntKind.i64.wrap (d*(b+2*a+2))=d*(b+2*a+2):=IntWalk.i64_in _ (by omega);go_enter func114,ntmps114;go_wp2_with (go_at_call 174;refine(Uw _ _ _ ?h1 ?h2 _).mono ?_;(case h1=>assumption);(case h2=>assumption);rintro e f ⟨rfl,h⟩;have k:=h.symm;subst k)
 go_ret;exact⟨by first|rfl|simp[j],ad⟩
theorem Uf:(prog.info? 31).map (fun i=>(i.zero,i.size,i.bytes))=some (some (.agg #[.int .i64 0,.int .i64 0]),2,16):=by kernel_rfl
theorem Rv(p:Int×Int):∀u∈ptL p,u.oneCell'=true:=by intro u a;simp at a;rcases a with rfl|rfl<;>rfl
theorem Md{S:Nat->Prop}{x W e:World}{g:Nat}{T:fU}{pv mv:Value}(H:ph S x g T pv mv)(f:zB x W)(h:W.grownBy e pv.ownBlock):Blk e g (MJ T pv mv) 134:=by
 have d:=cv H.rp f;have a:=H.blk.keep f;obtain⟨-,⟨rfl,-⟩|⟨b,j,c,rfl,-,i,-⟩⟩:=d
 ·exact a.keep (oq h)
 ·exact(pc h).blk a (Blk.ne a (show Blk W b c 31 from i) (by decide))
theorem Oq{S:Nat->Prop}{x W a:World}{g:Nat}{T:fU}{pv mv d:Value}{q:Int×Int}(H:ph S x g T pv mv)(j:zB x W)(i:a.ownsRow 0 31 2 d (T.p.length+1) (T.p.flatMap ptL++ptL q))(c:W.grownBy a pv.ownBlock)(m:d.ownBlock=pv.ownBlock∨d.ownBlock=some W.heap.size):bg S x (a.setCell ⟨g,11,none⟩ d)/\ph (Sn S x) (a.setCell ⟨g,11,none⟩ d) g {T with p:=T.p++[q]} d mv:=by
 have n:=cv H.rp j;have s:bg S x a:=(bg.of_below (S:=S) j).trans (S':=fun k=>pv.ownBlock=some k) ⟨c.os,c.tape,c.output,c.size,fun k w u=>c.block k w (fun e=>u e.symm)⟩ (fun k _ e=>H.sp k e);have f:=Md H j c;have O:ah g a (a.setCell ⟨g,11,none⟩ d):=ah.refl.setCell 11 _;have r:aa (fun _=>True) [134] false a _:=aa.cU O f (List.mem_singleton.2 rfl) trivial
 have l:a.ownsRow 0 4 1 mv T.moved.length (T.moved.map Value.bool):=by
  have:=cv H.rm j;obtain⟨-,⟨rfl,-⟩|⟨b,v,o,rfl,-,t,-⟩⟩:=n
  ·exact cv this (oq c)
  ·exact fW this (aa.cU (S:=fun _=>True) (mp:=false) (pc c) (show Blk W b o 31 from t) (List.mem_singleton.2 rfl) trivial) (by decide)
 refine⟨s.gZ O (.inl H.sg),(f.ab 11 _).of_eq rfl,.inl H.sg,?_,?_,fW l r (by decide),fun b e=>.inl (H.sm b e)⟩
 ·have:=fW i r (by decide);simpa using this
 ·intro b e;rcases m with h|h
  ·exact .inl (H.sp b (h ▸ e))
  ·rw[h] at e;injection e with e
   have:=j.size;exact .inr (by omega)
def O7(i:Nat):Int×Int:=(1000*((i:Int)%8),1000*((i:Int)/8))
def DY(c:Cfg)(k:Nat):fU:=⟨c,(List.range k).map O7,List.replicate c.nodes.toNat false,0,0⟩
theorem Ip(c:Cfg)(k:Nat):(DY c k).p.length=k:=by simp [DY]
theorem MI(c:Cfg)(k:Nat):({DY c k with p:=(DY c k).p++[O7 k]} : fU)=DY c (k+1):=by unfold DY;simp [List.range_succ]
theorem Ou(c:Cfg)(Y:c.may=true)(w:World):Calls prog 53 #[If c] w fun e w'=>∃g,e=.returned (ptr g)/\A6 (fun k=>w.heap.size<=k) w' g (.new c)/\zB w w':=by
 have V:=Af c Y;obtain⟨N,Z⟩:∃N:Nat,c.nodes=(N:Int):=⟨c.nodes.toNat,by omega⟩;have a5:N<=64:=by omega
 have hm:=run_make_row' (P:=prog) 71 4 (.bool false) 1 underlying71 IP rfl .i64 .i64 N (by omega) (by omega);obtain⟨i0,hi,U,R,Q⟩:=info_parts Uf;have HC:=Lh Y;have EV:Hid (fU.new c=DY c N):=by show _=_;unfold fU.new DY O7;rw[Z];simp
 obtain⟨x0,K,L,I,G,E,D,M,O,H,i⟩:=c;simp only at Z;subst Z;clear Y V;go_enter func53,ntmps53;go_wp2_with (go_at_call 114;refine(Ov _ HC.out _).mono ?_;rintro e n ⟨rfl,m⟩;have o:=m.size;(try simp at o);have v:=bq m (w.heap.size))
 have F:Hid (Blk n w.heap.size #[N,K,L,I,G,E,D,M,O,H,i] 26):=Blk.keep (Blk.new _ _ _) m;have t:Hid (zB w n):=(show Below _ _ _ from ad);clear o v;clear m;obtain⟨C,T,J,-⟩:=cz F.out;have a0:=F.out.row?_all 11 rfl;have hz:=t.out.size;obtain⟨p,f⟩:∃p:Cfg,(⟨(N:Int),K,L,I,G,E,D,M,O,H,i⟩:Cfg)=p:=⟨_,rfl⟩;have a2:=Lh f;go_cut [3] from 4 (fun s3 wc=>∃y,s3=ptr y/\Hid (∃pv mv,ph (fun k=>w.heap.size<=k) wc y (DY p 0) pv mv)/\Hid (Blk wc w.heap.size #[N,K,L,I,G,E,D,M,O,H,i] 26)/\Hid (zB w wc))
 case first=>
  go_region
  all_goals go_wp2_with fail
  all_goals go_meet
  all_goals refine⟨_,rfl,?_,?_,?_⟩
  ·have a4:(DY p 0).moved=List.replicate N false:=by rw[<-f];simp[DY]
   have MO:=F4 n N (by unfold maxLen;omega);refine⟨.slice none 0 0,.slice (some ⟨n.heap.size,0,none⟩) N N,?_⟩;refine⟨Blk.of_eq (Blk.new1 n _ _ _).drew (by rw[<-f];rfl),by show _<=_;omega,⟨rfl,.inl ⟨rfl,rfl⟩⟩,(fun b e=>by cases e),?_,(fun b e=>by injection e with e;show _<=_;simp only at e;omega)⟩;rw[a4];have:=cv (cv MO ((Below.refl _ _).alloc (Nat.le_refl _) (.cells (MJ (DY p 0) (.slice none 0 0) (.slice (some ⟨n.heap.size,0,none⟩) N N)) 134))) (Below.refl _ _).drew;have e:MJ (DY p 0) (.slice none 0 0) (.slice (some ⟨n.heap.size,0,none⟩) N N)=#[.int .i64 N,.int .i64 K,.int .i64 L,.int .i64 I,.int .i64 G,.int .i64 E,.int .i64 D,.int .i64 M,.int .i64 O,.int .i64 H,.int .i64 i,.slice none 0 0,.slice (some ⟨n.heap.size,0,none⟩) N N,.int .i64 0,.int .i64 0]:=by rw[<-f];rfl
   rw[e] at this;simpa using this
  ·show Blk _ _ _ _;have XX:=F.out;exact cC
  ·show Below _ _ _;have XX:=t.out;exact ad
 case rest=>
  obtain⟨y,rfl,HT,a3,a1⟩:=hcut;clear C T J a0 F t hz f;obtain⟨C,T,J,-⟩:=cz a3.out;go_wp2_with fail;clear C T J;go_loopw [16] (fun s wr=>∃k:Nat,k<=N/\s=.int .i64 k/\Hid (∃pv mv,ph (fun k=>w.heap.size<=k) wr y (DY p k) pv mv)/\Hid (zB w wr)) (fun s _=>N-(intOf s).toNat)
  case atStart=>exact⟨0,by omega,rfl,HT,a1⟩
  case round=>
   obtain⟨k,hk,rfl,d,u⟩:=hrel;obtain⟨pv,mv,d⟩:=d.out;by_cases a8:k<N
   ·obtain⟨ao,W,rfl⟩:=kh d.rp;rw[Ip] at d;have r:=d.rp;rw[Ip] at r;have a7:wr.cell? ⟨y,11,none⟩=some (.slice ao k W):=d.blk.cell rfl;have J:=d.blk.frozen;have C:=d.blk.lt;have a6:=u.out.size;have k1:(k:Int)<(N:Int):=by omega
    have k2:(0:Int)<=(k:Int):=by omega
    have l:=Lh d;have S:=Lh r;clear d r;go_wp2_with (at_builtin;refine wpList_append_own_at _ rfl _ _ 132 rfl 0 31 i0 (.agg #[.int .i64 0,.int .i64 0]) 2 16 underlying132 hi U R Q rfl (by decide) _ k _ rfl (cv S.out ((Below.refl _ _).alloc (Nat.le_refl _) _)) ⟨wr.heap.size,0,none⟩ 1 1 _ rfl rfl (te (Blk.new _ _ _)) (Rv (O7 k)) (by unfold maxLen;omega) (by omega) (by omega) ?_)
    intro v' w5 h a B z;obtain⟨g',A,rfl⟩:=xB h (by omega);have YA:=Md l.out ((Below.refl _ _).alloc (Nat.le_refl _) _) a;have YE:=Lh (Oq (q:=O7 k) l.out ((Below.refl _ _).alloc (Nat.le_refl _) _) (by rw[Ip];exact h) a (by simpa using z));clear h a B z;obtain⟨y2,c2,f2,-⟩:=cz YA;clear YA;go_wp2_with fail;go_roundw
    case rel=>
     refine⟨k+1,by omega,by go_num,(show ∃pv mv,_ from⟨.slice (some ⟨g',0,none⟩) (k+1) A,mv,?_⟩),?_⟩
     ·rw[<-MI]
      exact YE.out.2.kept (fun _ _ _=>rfl) (fun j _ x=>by
       rcases x with x|x
       ·exact x
       ·show _<=_;omega)
     ·exact YE.out.1.below u.out (Nat.le_refl _) (fun j x=>x)
    case measure=>exact(by first|(simp[intOf];done)|(simp[intOf];omega))
   ·have X:k=N:=by omega
    subst X;have k1:¬((k:Int)<(k:Int)):=by omega
    have l:=Lh d;clear d;go_wp2_with fail;go_ret;rw[EV.out,a2.out];exact⟨_,rfl,⟨pv,mv,l.out⟩,u.out⟩
def ellAt(i:Nat):El:=if i<3 then (ballE (1000*((i:Int)%8)) (1000*((i:Int)/8)) 10).1 else .zero
def fltK(c:Cfg)(N k:Nat):FleetD:=⟨.new c,[],c,(List.range k).map (fun (i:Nat)=>NodeD.new c i 0 (ellAt i)),List.replicate k true++List.replicate (N-k) false,0⟩
theorem NH(c:Cfg)(N:Nat)(h:c.nodes=(N:Int)):fltK c N N=.new c:=by
 unfold fltK FleetD.new ellAt;rw[h];simp
theorem K4(c:Cfg)(N k:Nat):(fltK c N k).n.length=k:=by simp [fltK]
theorem NG(c:Cfg)(N k:Nat)(h:k<N):({fltK c N k with n:=(fltK c N k).n++[NodeD.new c k 0 (ellAt k)],on:=(fltK c N k).on.set k true} : FleetD)=fltK c N (k+1):=by
 unfold fltK;simp only[List.range_succ,List.map_append,List.map_cons,List.map_nil,FleetD.mk.injEq,true_and,and_true];rw[List.set_append_right _ _ (by simp)];simp only[List.length_replicate,Nat.sub_self];obtain⟨m,a⟩:∃m,N-k=m+1:=⟨N-k-1,by omega⟩;rw[a,show N-(k+1)=m by omega,List.replicate_succ,List.set_cons_zero,List.replicate_succ',List.append_assoc];rfl
theorem ellAt_may(i:Nat)(h:i<64):(ellAt i).a≠0/\(ellAt i).may=true∨ellAt i=.zero:=by
 unfold ellAt;split
 ·left;obtain⟨x,e⟩:∃x,1000*((i:Int)%8)=x:=⟨_,rfl⟩;obtain⟨y,c⟩:∃y,1000*((i:Int)/8)=y:=⟨_,rfl⟩
  have b:mayPt x y=true:=by
   unfold mayPt;simp;omega
  have d:ballE x y 10=(⟨x,y,10*10,0,10*10⟩,0):=by unfold ballE;rw[if_pos ⟨b,by decide,by decide⟩]
  rw[e,c,d];exact⟨by show(10*10:Int)≠0;decide,zv x y 10 b (by decide) (by decide)⟩
 ·right;rfl
theorem LN(c:Cfg)(j:c.may=true)(i:Nat)(l:i<64)(w:World):Calls Tryz.prog 56 #[If c,i,.int .i64 0,elC (ellAt i).x (ellAt i).y (ellAt i).a (ellAt i).b (ellAt i).d] w fun e f=>∃g L,e=.returned (ptr g)/\NodeAt (fun k=>w.heap.size<=k) f g L (.new c i 0 (ellAt i))/\zB w f:=by
 rcases ellAt_may i l with h|h
 ·exact Nm c j i 0 (by omega) (by decide) _ _ _ _ _ h w
 ·rw[h];exact Nl c j i 0 (by omega) (by decide) w
theorem RV:(Tryz.prog.info? 43).map (fun i=>(i.zero,i.size,i.bytes))=some (some (.pointer none),1,8):=by kernel_rfl
theorem JP(g:Nat):∀u∈[ptr g],u.oneCell'=true:=by intro u a;simp at a;subst a;rfl
end Go.Proofs.YtechbdnhalmobaaGreatDoor
