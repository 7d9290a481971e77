/- Joined texts. -/
import Derived.Test.YtnllbjchcfpmpaaGreatDoorMWkTr
set_option linter.all false
namespace Go.Proofs.YtnllbjchcfpmpaaGreatDoor
open Go.Stp Go.RowKit Go.ValP Go.Sp _root_.Go.Proofs.Tryz
set_option maxRecDepth 100000
theorem mw{x0:Int}{u:Bool}{w0:World}(f:js x0=some u):Calls prog 98 [.int .u8 x0].toArray w0 (bj λv w=>v=.bool u/\Ext w0 w):=by
 refine en func98 [0] [_] λQ a Zi Z E H h J=>?_
 clear E
 unfold js at f
 refine rg λK k=>ae 1 h O λa h=>cz k<|rg λK k=>ae 1 h O λa h=>sB h f O (gI O O) λz1 e1 f a h=>ae 1 h O λa h=>ai h O O (gT O) O O (λg=>an O) λa h=>?_
 obtain⟨z2,W,f⟩:=bv f
 refine ai h O O (gT O) O O (λg=>vB W (jX (eg g O) O)) λa h=>?_
 refine sB h f O (bK O O) λz3 e3 f a h=>ae 1 h O λa h=>ai h O O (gF O) O O (λg=>an O) λa h=>?_
 obtain⟨z4,X,f⟩:=bv f
 refine ai h O O (gF O) O O (λg=>vB X (gI (eg g O) O)) λa h=>?_
 refine ai h O O (gF O) O O (λg=>an (eg g O)) λa h=>?_
 refine ai h O O (xM O) O O (λg=>an O) λa h=>?_
 obtain⟨z5,Y,f⟩:=bv f
 refine ai h O O (xM O) O O (λg=>vB Y (jX (eg g O) O)) λa h=>?_
 obtain⟨z6,e6,f⟩:=bv f
 refine ai h O O (gF O) O O (λg=>vB e6 (bK (eg g O) (EV g O))) λa h=>?_
 refine sB h f O (ca O O) λz7 e7 f a h=>ae 1 h O λa h=>ai h O O (gF O) O O (λg=>an O) λa h=>?_
 obtain⟨z8,e8,f⟩:=bv f
 refine ai h O O (gF O) O O (λg=>vB e8 (aD (eg g O) O)) λa h=>?_
 refine sB h f O (ca O O) λz9 e9 f a h=>ae 1 h O λa h=>ai h O O (gF O) O O (λg=>an O) λa h=>?_
 obtain⟨a1,F,f⟩:=bv f
 refine ai h O O (gF O) O O (λg=>vB F (aD (eg g O) O)) λa h=>?_
 refine sB h f O (ca O O) λa6 a7 f a h=>ae 1 h O λa h=>ai h O O (gF O) O O (λg=>an O) λa h=>?_
 obtain⟨a8,G,f⟩:=bv f
 refine ai h O O (gF O) O O (λg=>vB G (aD (eg g O) O)) λa h=>?_
 refine sB h f O (ca O O) λad af f a h=>ae 1 h O λa h=>cN k h [2] [_] λh=>?_
 cases f
 refine r1 J h O O ⟨O,H.out⟩
theorem pI{x0:List UInt8}{x1:Int->Option (Bool)}{g:Int}{w0:World}(f:kD x0 x1=some g){Z:FZ}(hZ:Z.inn w0){u:FuncId}{E:Array Value}(J:EW prog u E Z (λc:Int=>[.int .u8 c]) (λr:Bool=>.bool r) x1):Calls prog 93 [S x0,.func (.func u) #[] E].toArray w0 (bj λv w=>v=I g/\Ext w0 w):=by
 refine o6 hZ func93 [0,1] O2 λQ a Zi F H h Y=>?_
 try rw[<-F]at Y
 rw[<-F]at J
 clear F
 unfold kD at f
 refine rg λK k=>ae 1 h O λa h=>cz k ?_
 obtain⟨J2,a1,f⟩:=bv f
 refine dA (λa w=>∃(Z:FZ) (s2:Unit),J2 s2=some g/\Fr 21 [(0,S x0)] a/\HZ w0 Zi Z [] w) ?_ ?_
 rintro a w ⟨Z,s2,f,h,H⟩
 subst a1
 refine rg λK k=>ae 1 h O λa h=>s1 h O (dE U9 O) λa h=>ae 1 h O λa h=>cz k ?_
 cases f
 refine r1 Y h O O ⟨O,H.out⟩
 refine rg λK k=>ae 1 h O λa h=>s1 h O (dE U9 O) λa h=>ae 1 h O λa h=>cz k<|lb ?_
 obtain⟨B4,a6,f⟩:=bv f
 refine ib (λG a w=>∃(Z:FZ) (s4:Int),loopF B4 G s4=some g/\Fr 21 [(0,S x0),(1,.func (.func u) #[] E),(7,I (x0.length:Int)),(8,I s4)] a/\HZ w0 Zi Z [] w) KK ⟨_,_,f,h.to,H⟩ ?_
 rintro G a w ⟨Z,s4,f,h,H⟩
 obtain⟨G,rfl,n4,a7,f⟩:=iJ a6 f
 refine rg λK k=>sB h f O (bn O O) λz6 e6 f a h=>cz k<|sq<|cI h f O (λa8 f=>?_) λa8 f=>?_
 refine ag<|sb ?_
 refine rg λK k=>ae 2 h O λa h=>cz k<|rg λK k=>ae 3 h O λa h=>?_
 obtain⟨ad,f⟩:=ck f
 refine sI h f O (gi U9 O O ad) λaf b0 f a h=>sC h H f O (λao f12=>EN J H.EC O (c:=af) O f12) λao f w X H a h=>?_
 refine sB h f O (dI O) λb1 b2 f a h=>cN k h [0,1,5,7,8,16] O6 λh=>?_
 refine cI h f O (λW f=>?_) λW f=>?_
 refine rg λK k=>ae 2 h O λa h=>cN k h [4] [_] λh=>?_
 cases f
 refine r1 Y h O O ⟨O,H.out⟩
 refine ag<|ah<|sI h f O (aw O O) λb3 b4 f a h=>ae 1 h O λa h=>am ?_
 exact fK (bp ⟨fq a7 f,h.to,H⟩)
 exact aR (tH ⟨f,h.to,H⟩)
theorem tD{x0:List UInt8}{g:(List UInt8) × Int}{w0:World}(f:kj x0=some g):Calls prog 95 [S x0].toArray w0 (bj λv w=>v=.tuple #[S g.1,I g.2]/\Ext w0 w):=by
 refine en func95 [0] [_] λQ a Zi Z Y H h F=>?_
 clear Y
 unfold kj at f
 refine rg λK k=>ae 2 h O λa h=>cz k ?_
 obtain⟨B3,a1,f⟩:=bv f
 refine BG 0 (λE a w=>∃(Z:FZ) (X:(List UInt8) × Int),loopF B3 E X=some g/\Fr 42 [(0,S x0),(4,S X.1),(5,I X.2)] a/\HZ w0 Zi Z [] w) O ?_ ?_
 rintro E a w ⟨Z,X,f,h,H⟩ Q hG hN hR
 have F:=λa w o=>hR a w (F a w o)
 obtain⟨E,rfl,n3,G,f⟩:=iJ a1 f
 refine sq<|rg λK k=>ae 2 h O λa h=>s1 h O (dE U9 O) λa h=>sB h f O (gI O O) λz6 e6 f a h=>cz k<|cI h f O (λa6 f=>?_) λa6 f=>?_
 refine rg λK k=>ae 2 h O λa h=>cN k h [2,3] O2 λh=>?_
 cases f
 refine r2 F h O O O ⟨O,H.out⟩
 refine ag<|cO h [0,4,5] O3 λh=>?_
 refine sq<|rg λK k=>ae 2 h O λa h=>?_
 obtain⟨c9,f⟩:=ck f
 refine sI h f O (gi U9 O O c9) λb2 b3 f a h=>sB h f O (fN O O) λb4 b5 f a h=>cz k<|cI h f O (λJ f=>?_) λJ f=>?_
 refine rg λK k=>ae 4 h O λa h=>sI h f O (aw O O) λb6 b7 f a h=>?_
 obtain⟨a7,f⟩:=ck f
 refine sS h f O (u_ U9 O O O a7) λbb bk f a h=>?_
 obtain⟨a8,f⟩:=ck f
 refine sS h f O (cE O O a8) λbq bs f a h=>ae 1 h O λa h=>cN k h [0,4,5] O3 λh=>?_
 refine rg λK k=>ae 1 h O λa h=>sI h f O (aw O O) λc6 c7 f a h=>ae 1 h O λa h=>cz k ?_
 exact zb (hG _ _ ⟨_,Nat.lt_succ_self _,_,_,fq G f,h.to,H⟩)
 refine ag<|cO h [0,4,5] O3 λh=>?_
 refine sq<|rg λK k=>ae 1 h O λa h=>sI h f O (aw O O) λc8 cc f a h=>ae 1 h O λa h=>s1 h O (dE U9 O) λa h=>sB h f O (bn O O) λch cp f a h=>ae 1 h O λa h=>ai h O O (gT O) O O (λu=>an O) λa h=>?_
 refine ai h O O (gT O) O O (λu=>an O) λa h=>?_
 obtain⟨ct,ad,f⟩:=bv f
 refine ai h O O (gT O) O O (λu=>vI ad (aw (eg u O) O)) λa h=>?_
 obtain⟨af,f⟩:=ck f
 obtain⟨cx,ao,f⟩:=bv f
 refine ai h O O (gT O) O O (λu=>vI ao (gi U9 (eg u O) (eg u O) (af u))) λa h=>?_
 obtain⟨cy,b0,f⟩:=bv f
 refine ai h O O (gT O) O O (λu=>vB b0 (aD (eg u O) O)) λa h=>?_
 refine sB h f O (bK O O) λda dd f a h=>cN k h [0,4,5,34] O4 λh=>?_
 refine cI h f O (λW f=>?_) λW f=>?_
 refine rg λK k=>ae 1 h O λa h=>?_
 obtain⟨b1,f⟩:=ck f
 refine sS h f O (cE O O b1) λdj dn f a h=>ae 1 h O λa h=>cz k<|rg λK k=>ae 1 h O λa h=>sI h f O (aw O O) λdv dz f a h=>ae 1 h O λa h=>cN k h [0,4,5] O3 λh=>?_
 exact zb (hG _ _ ⟨_,Nat.lt_succ_self _,_,_,fq G f,h.to,H⟩)
 refine ag<|rg λK k=>ae 2 h O λa h=>sI h f O (aw O O) λe1 e2 f a h=>ae 2 h O λa h=>cN k h [2,3] O2 λh=>?_
 cases f
 refine r2 F h O O O ⟨O,H.out⟩
 intro Q hL hN hR
 have F:=λa w o=>hR a w (F a w o)
 refine rg λK k=>ae 1 h O λa h=>cz k<|rg λK k=>ae 1 h O λa h=>cz k ?_
 exact Bi (hL _ _ _ ⟨_,_,f,h.to,H⟩)
theorem sR{x0:Int}{g:Bool}{w0:World}(f:l8 x0=some g):Calls prog 94 [.int .u8 x0].toArray w0 (bj λv w=>v=.bool g/\Ext w0 w):=by
 refine en func94 [0] [_] λQ a Zi Z E H h F=>?_
 clear E
 unfold l8 at f
 refine rg λK k=>ae 1 h O λa h=>cz k<|rg λK k=>ae 1 h O λa h=>sB h f O (gI O O) λW X f a h=>ae 1 h O λa h=>ai h O O (gT O) O O (λu=>an O) λa h=>?_
 obtain⟨Y,G,f⟩:=bv f
 refine ai h O O (gT O) O O (λu=>vB G (jX (eg u O) O)) λa h=>?_
 refine sB h f O (bK O O) λz3 e3 f a h=>ae 1 h O λa h=>ai h O O (gF O) O O (λu=>an O) λa h=>?_
 obtain⟨z4,J,f⟩:=bv f
 refine ai h O O (gF O) O O (λu=>vB J (aD (eg u O) O)) λa h=>?_
 refine sB h f O (ca O O) λz5 e5 f a h=>ae 1 h O λa h=>cN k h [2] [_] λh=>?_
 cases f
 refine r1 F h O O ⟨O,H.out⟩
theorem vK{x0:List UInt8}{u:Tk × Int}{w0:World}(f:eM x0=some u) (hG:GW w0):Calls prog 57 [S x0].toArray w0 (bj λv w=>v=.tuple #[.agg #[I u.1.k,S u.1.s,I u.1.a],I u.2]/\Ext w0 w):=by
 refine en func57 [0] [_] λQ a Zi Z bq H h hr=>?_
 clear bq
 unfold eM at f
 refine rg λK k=>zA h H zeroValue109 O3 (λx=>[x]) λa Y w X H h=>?_
 refine ae 1 h O λa h=>cz k<|rg λK k=>ae 1 h O λa h=>?_
 obtain⟨c2,f⟩:=ck f
 refine sI h f O (gi U9 O O c2) λz3 e3 f a h=>ae 1 h O λa h=>cz k ?_
 obtain⟨J5,bs,f⟩:=bv f
 refine Bg (λa w=>∃(Z:FZ) (s5:Int × (List UInt8) × Int),J5 s5=some u/\Fr 90 [(0,S x0),(2,(pt Y))] a/\HZ w0 Zi Z [.blk Y (aB [I s5.1,S s5.2.1,I s5.2.2] 109)] w) ?_ ?_
 rintro a w ⟨Z,s5,f,h,H⟩
 subst bs
 obtain⟨J7,c6,f⟩:=bv f
 refine dA (λa w=>∃(Z:FZ) (s7:Int × (List UInt8) × Int),J7 s7=some u/\Fr 90 [(2,(pt Y))] a/\HZ w0 Zi Z [.blk Y (aB [I s7.1,S s7.2.1,I s7.2.2] 109)] w) ?_ ?_
 rintro a w ⟨Z,s7,f,h,H⟩
 subst c6
 refine rg λK k=>s1 h O (aS mU [] O3 O O) λa h=>zS h H 0 ee O3 O3 [_] λw H=>?_
 refine ae 1 h O λa h=>cz k ?_
 cases f
 refine r2 hr h O (aO H 0 isAgg109 ee O3) O ⟨O,H.out⟩
 refine rg λK k=>?_
 obtain⟨c9,f⟩:=ck f
 obtain⟨a1,c7,f⟩:=bv f
 refine cW (data:=a1) h H O O O ((by rw[c7];exact dC call42 (eG c9 (hG.ext H.out)))) λF Z w e9 X H g a h=>?_
 refine s1 h O (bY lg O (g.at H.zin)) λa h=>ae 1 h O λa h=>cz k<|lb ?_
 obtain⟨c8,a8,f⟩:=bv f
 refine ib (λE a w=>∃(Z:FZ) (G:Int × Int × (List UInt8) × Int),loopF c8 E G=some u/\Fr 90 [(0,S x0),(2,(pt Y)),(75,F),(76,I (a1.length:Int)),(77,I G.1)] a/\HZ w0 Zi Z [.blk Y (aB [I G.2.1,S G.2.2.1,I G.2.2.2] 109)] w/\bx Z F 1 eS a1) KK ⟨_,_,f,h.to,H,g⟩ ?_
 rintro E a w ⟨Z,G,f,h,H,g⟩
 obtain⟨E,rfl,ea,ad,f⟩:=iJ a8 f
 refine rg λK k=>sB h f O (bn O O) λeb ec f a h=>cz k<|sq<|cI h f O (λaf f=>?_) λaf f=>?_
 refine ag<|sb ?_
 refine rg λK k=>?_
 obtain⟨ao,f⟩:=ck f
 obtain⟨cc,ch,f⟩:=bv f
 refine bB h lg Z9 O O (g.at H.zin) (λ_=>rfl) cc ao.1 (by rw[ch];exact ak ao) rfl λa ed a6 h=>?_
 refine s1 h O (al O a6 A9 O) λa h=>ae 1 h O λa h=>cz k<|rg λK k=>ae 2 h O λa h=>?_
 obtain⟨cp,ct,f⟩:=bv f
 refine d_ (T:=Ext) (V:=.bool cp) h O O O ((by rw[ct];exact dC call97 (mg))) λw X a h=>?_
 have H:=H.ext X
 have a6:=At.ext a6 X
 refine cN k h [0,2,12,75,76,77,83] O7 λh=>?_
 refine cI h f O (λb0 f=>?_) λb0 f=>?_
 refine rg λK k=>ae 1 h O λa h=>s1 h O (aS mU O2 O3 O O) λa h=>ae 1 h O λa h=>s1 h O (dE U9 O) λa h=>zS h H 0 ee O3 O3 [_] λw H=>?_
 refine ae 1 h O λa h=>cN k h [2,3] O2 λh=>?_
 cases f
 refine r2 hr h O (aO H 0 isAgg109 ee O3) O ⟨O,H.out⟩
 refine ag<|ah<|sI h f O (aw O O) λef ei f a h=>ae 1 h O λa h=>am ?_
 exact fK (bp ⟨fq ad f,h.to,H,g⟩)
 exact aR (bp ⟨f,h.to,H⟩)
 refine rg λK k=>ae 1 h O λa h=>sB h f O (gI O O) λej el f a h=>ae 1 h O λa h=>ai h O O (gT O) O O (λe0=>an O) λa h=>?_
 obtain⟨eo,cx,f⟩:=bv f
 refine ai h O O (gT O) O O (λe0=>vB cx (jX (eg e0 O) O)) λa h=>?_
 refine sB h f O (bK O O) λep er f a h=>ae 1 h O λa h=>ai h O O (gF O) O O (λe0=>an O) λa h=>?_
 obtain⟨et,cy,f⟩:=bv f
 refine ai h O O (gF O) O O (λe0=>vB cy (aD (eg e0 O) O)) λa h=>?_
 refine sB h f O (ca O O) λeu ew f a h=>ae 1 h O λa h=>cN k h [0,2,4,15] O4 λh=>?_
 refine cI h f O (λb1 f=>?_) λb1 f=>?_
 refine rg λK k=>ae 1 h O λa h=>sC h H f O (λda f32=>dC call93 (pI f32 H.zin ⟨call94,λey r_ w_ dd a7=>sR a7 ⟩ :)) λda f w X H a h=>?_
 refine ae 1 h O λa h=>cN k h [0,2,5] O3 λh=>?_
 refine rg λK k=>ae 2 h O λa h=>?_
 obtain⟨dj,f⟩:=ck f
 refine sS h f O (lm U9 O O dj) λez eF f a h=>s1 h O (aS mU O2 O3 O O) λa h=>ae 1 h O λa h=>zS h H 0 ee O3 O3 [_] λw H=>?_
 refine ae 1 h O λa h=>cN k h [2,3] O2 λh=>?_
 cases f
 refine r2 hr h O (aO H 0 isAgg109 ee O3) O ⟨O,H.out⟩
 refine rg λK k=>ae 1 h O λa h=>sB h f O (aD O O) λeJ eZ f a h=>ae 1 h O λa h=>cz k<|cI h f O (λb2 f=>?_) λb2 f=>?_
 refine rg λK k=>ae 1 h O λa h=>sC h H f O (λdn f37=>dC call95 (tD f37 :)) λdn f w X H a h=>?_
 refine ae 5 h O λa h=>cN k h [2,6,7] O3 λh=>?_
 refine rg λK k=>ae 1 h O λa h=>s1 h O (aS mU O2 O3 O O) λa h=>ae 1 h O λa h=>zS h H 0 ee O3 O3 [_] λw H=>?_
 refine ae 1 h O λa h=>cN k h [2,3] O2 λh=>?_
 cases f
 refine r2 hr h O (aO H 0 isAgg109 ee O3) O ⟨O,H.out⟩
 refine rg λK k=>ae 1 h O λa h=>sB h f O (aD O O) λff fs f a h=>ae 1 h O λa h=>cN k h [0,2,4,44] O4 λh=>?_
 refine cI h f O (λb3 f=>?_) λb3 f=>?_
 obtain⟨dv,b4,f⟩:=bv f
 refine dA (λa w=>∃(Z:FZ) (W:Int × (List UInt8) × Int),dv W=some u/\Fr 90 [(2,(pt Y))] a/\HZ w0 Zi Z [.blk Y (aB [I W.1,S W.2.1,I W.2.2] 109)] w) ?_ ?_
 rintro a w ⟨Z,W,f,h,H⟩
 subst b4
 refine rg λK k=>s1 h O (aS mU [] O3 O O) λa h=>zS h H 0 ee O3 O3 [_] λw H=>?_
 refine ae 1 h O λa h=>cz k ?_
 cases f
 refine r2 hr h O (aO H 0 isAgg109 ee O3) O ⟨O,H.out⟩
 refine rg λK k=>ae 1 h O λa h=>cz k<|lb ?_
 obtain⟨dz,b5,f⟩:=bv f
 refine ib (λE a w=>∃(Z:FZ) (J:Int × Int × (List UInt8) × Int),loopF dz E J=some u/\Fr 90 [(0,S x0),(2,(pt Y)),(8,I J.1)] a/\HZ w0 Zi Z [.blk Y (aB [I J.2.1,S J.2.2.1,I J.2.2.2] 109)] w) KK ⟨_,_,f,h.to,H⟩ ?_
 rintro E a w ⟨Z,J,f,h,H⟩
 obtain⟨E,rfl,gb,b6,f⟩:=iJ b5 f
 refine sq<|rg λK k=>ae 1 h O λa h=>sB h f O (jX O O) λgf gg f a h=>cz k<|cI h f O (λb7 f=>?_) λb7 f=>?_
 refine ag<|sb ?_
 refine rg λK k=>ae 1 h O λa h=>sC h H f O (λe1 f49=>dC call96 (jg f49 (hG.ext H.out) :)) λe1 f w X H a h=>?_
 refine ae 1 h O λa h=>cN k h [0,2,8,9] O4 λh=>?_
 refine rg λK k=>ae 2 h O λa h=>?_
 obtain⟨e2,e4,f⟩:=bv f
 refine d_ (T:=Ext) (V:=.bool e2) h O O O ((by rw[e4];exact dC call97 (mg))) λw X a h=>?_
 have H:=H.ext X
 refine cz k<|cI h f O (λbb f=>?_) λbb f=>?_
 refine rg λK k=>ae 1 h O λa h=>s1 h O (aS mU O2 O3 O O) λa h=>ae 1 h O λa h=>s1 h O (dE U9 O) λa h=>zS h H 0 ee O3 O3 [_] λw H=>?_
 refine ae 1 h O λa h=>cN k h [2,3] O2 λh=>?_
 cases f
 refine r2 hr h O (aO H 0 isAgg109 ee O3) O ⟨O,H.out⟩
 refine ag<|cO h [0,2,8] O3 λh=>?_
 refine ah<|ae 1 h O λa h=>sI h f O (aw O O) λgl gm f a h=>ae 1 h O λa h=>am ?_
 exact fK (bp ⟨fq b6 f,h.to,H⟩)
 exact aR (bp ⟨f,h.to,H⟩)
 refine rg λK k=>ae 1 h O λa h=>sC h H f O (λe5 f54=>dC call98 (mw f54 :)) λe5 f w X H a h=>?_
 refine ae 1 h O λa h=>ai h O O (gT O) O O (λe0=>an O) λa h=>?_
 obtain⟨h0,e6,f⟩:=bv f
 refine ai h O O (gT O) O O (λe0=>vB e6 (fN (eg e0 O) O)) λa h=>?_
 refine sB h f O (bK O O) λh2 h3 f a h=>ae 1 h O λa h=>cN k h [0,2,61] O3 λh=>?_
 refine cI h f O (λbk f=>?_) λbk f=>?_
 refine rg λK k=>ae 1 h O λa h=>sC h H f O (λe7 f59=>dC call93 (pI f59 H.zin ⟨call98,λh4 r_ w_ dd a7=>mw a7 ⟩ :)) λe7 f w X H a h=>?_
 refine ae 1 h O λa h=>cz k<|rg λK k=>ae 2 h O λa h=>?_
 obtain⟨e8,f⟩:=ck f
 refine sS h f O (lm U9 O O e8) λh5 h6 f a h=>s1 h O (aS mU O2 O3 O O) λa h=>ae 1 h O λa h=>zS h H 0 ee O3 O3 [_] λw H=>?_
 refine ae 1 h O λa h=>cN k h [2,3] O2 λh=>?_
 cases f
 refine r2 hr h O (aO H 0 isAgg109 ee O3) O ⟨O,H.out⟩
 exact ag (bp ⟨f,h.to,H⟩)
theorem uZ{x0:List UInt8}{g:(List (Tk)) × Int × Int}{w0:World}(f:i6 x0=some g) (hG:GW w0):Calls prog 37 [S x0].toArray w0 (bj λv w=>∃u1,v=.tuple #[u1,I g.2.1,I g.2.2]/\bx (ZB Z0 w0.heap.size w) u1 3 fa g.1/\Ext w0 w):=by
 refine en func37 [0] [_] λQ a Zi Z af H h hr=>?_
 clear af
 unfold i6 at f
 refine rg λK k=>ae 3 h O λa h=>cz k<|sq<|rg λK k=>ae 1 h O λa h=>s1 h O (dE U9 O) λa h=>sB h f O (dS O O) λz2 e2 f a h=>cN k h [0,11] O2 λh=>?_
 refine cI h f O (λao f=>?_) λao f=>?_
 refine rg λK k=>ae 3 h O λa h=>cz k ?_
 cases f
 refine r3 hr h O O O O ⟨_,O,bx.nil,H.out⟩
 refine ag<|rg λK k=>ae 1 h O λa h=>cz k ?_
 have H:=H.fc 109 3 rfl
 have H:HZ w0 _ _ [_] _:=H
 obtain⟨J5,b0,f⟩:=bv f
 refine dA (λa w=>∃(Z:FZ) (s5:(List (Tk))) (J:Value),J5 s5=some g/\Fr 42 [(5,J)] a/\HZ w0 Zi Z [.row 109 3 J (s5:List (Tk)).length ((s5:List (Tk)).flatMap fa)] w) ?_ ?_
 rintro a w ⟨Z,s5,J,f,h,H⟩
 subst b0
 refine rg λK k=>ae 4 h O λa h=>cz k ?_
 cases f
 refine r3 hr h O O O O ⟨_,O,(H.kH (i:=0) O),H.out⟩
 refine rg λK k=>ae 1 h O λa h=>cz k<|lb ?_
 obtain⟨B8,b1,f⟩:=bv f
 refine ib (λW a w=>∃(Z:FZ) (G:Int × (List (Tk))) (u:Value),loopF B8 W G=some g/\Fr 42 [(0,S x0),(5,u),(6,I G.1)] a/\HZ w0 Zi Z [.row 109 3 u (G.2:List (Tk)).length ((G.2:List (Tk)).flatMap fa)] w) KK ⟨_,_,_,f,h.to,H⟩ ?_
 rintro W a w ⟨Z,G,u,f,h,H⟩
 obtain⟨W,rfl,n8,Y,f⟩:=iJ b1 f
 refine sq<|rg λK k=>ae 2 h O λa h=>s1 h O (dE U9 O) λa h=>sB h f O (bn O O) λb7 bb f a h=>cz k<|cI h f O (λa1 f=>?_) λa1 f=>?_
 refine ag<|cO h [0,5,6] O3 λh=>?_
 refine lb<|sq<|rg λK k=>ae 2 h O λa h=>?_
 obtain⟨b2,f⟩:=ck f
 refine sI h f O (gi U9 O O b2) λbk bq f a h=>sB h f O (aD O O) λbs c6 f a h=>cz k<|cI h f O (λa6 f=>?_) λa6 f=>?_
 refine rg λK k=>ae 1 h O λa h=>sI h f O (aw O O) λc7 c8 f a h=>ae 1 h O λa h=>cN k h [0,5,6] O3 λh=>?_
 exact aR (fK (iP ⟨fq Y f,h.to,H⟩))
 refine ag<|cO h [0,5,6] O3 λh=>?_
 refine rg λK k=>ae 2 h O λa h=>?_
 obtain⟨b3,f⟩:=ck f
 refine sS h f O (pG U9 O O b3) λcc ch f a h=>sC h H f O (λE f23=>dC call57 (vK f23 (hG.ext H.out) :)) λE f w X H a h=>?_
 refine ae 3 h O λa h=>zA h H zeroValue109 O3 (λx=>[_,x]) λa cp w X H h=>?_
 refine zS h H 1 ee O3 O3 O2 λw H=>?_
 refine ae 1 h O λa h=>cN k h [0,5,6,7,8] O5 λh=>?_
 refine sq<|rg λK k=>ae 1 h O λa h=>sB h f O (aD O O) λct cx f a h=>cz k<|cI h f O (λa7 f=>?_) λa7 f=>?_
 refine rg λK k=>ae 4 h O λa h=>cN k h [2,3,4] O3 λh=>?_
 cases f
 refine r3 hr h O O O O ⟨_,O,bx.nil,H.out⟩
 refine ag<|rg λK k=>ae 1 h O λa h=>s1 h O (ab O j1 O Z3 O O) λa h=>zS h H 1 Z3 [_] O3 O2 λw H=>?_
 refine cN k h [0,5,6,7,8] O5 λh=>?_
 refine rg λK k=>ae 1 h O λa h=>s1 h O (lA H 1 isAgg109 ee O3) λa h=>cZ (enc:=fa) ([(⟨E.1.k,E.1.s,G.1⟩:Tk)]:List (Tk)) h H nK ee zeroValue109 O (zl:=[I 0,S [],I 0]) kR (cb 1 3) [_] O3 O O O O O λa a8 Z w b6 X H F h=>?_
 obtain⟨b4,f⟩:=ck f
 obtain⟨cy,b5,f⟩:=bv f
 refine cg (enc:=fa) (out:=G.2) (data:=[(⟨E.1.k,E.1.s,G.1⟩:Tk)]) h H 0 O nK Dn O O O F (λ_=>rfl) (λ_ _=>rfl) b4 O λa ad w H h=>?_
 rw[<-b5]at H
 have H:HZ w0 _ _ O2 _:=H
 refine ae 1 h O λa h=>cN k h [0,5,6,8] O4 λh=>?_
 refine ah<|ae 2 h O λa h=>sI h f O (aw O O) λda dd f a h=>ae 1 h O λa h=>am ?_
 exact fK (iP ⟨fq Y f,h.to,(H.cT 1 O)⟩)
 exact aR (iP ⟨f,h.to,H⟩)
end Go.Proofs.YtnllbjchcfpmpaaGreatDoor
