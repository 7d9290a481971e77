/- Joined texts. -/
import Derived.Test.YtnllbjchcfpmpaaGreatDoorMFQ
import Derived.Test.YtnllbjchcfpmpaaGreatDoorMWkPc
set_option linter.all false
namespace Go.Proofs.YtnllbjchcfpmpaaGreatDoor
open Go.Stp Go.RowKit Go.ValP Go.Sp _root_.Go.Proofs.Tryz
set_option maxRecDepth 100000
theorem om{x0:List UInt8}{u:Int × Bool}{w0:World}(f:fX x0=some u) (hG:jY w0):Calls prog 137 [S x0].toArray w0 (bj λv w=>v=.tuple #[I u.1,.bool u.2]/\Ext w0 w):=by
 refine en func137 [0] [_] λQ a Zi Z Y H h hr=>?_
 clear Y
 unfold fX at f
 refine rg λK k=>ae 2 h O λa h=>cz k ?_
 obtain⟨J2,a1,f⟩:=bv f
 refine dA (λa w=>∃(Z:FZ) (s2:Unit),J2 s2=some u/\Fr 19 [] a/\HZ w0 Zi Z [] w) ?_ ?_
 rintro a w ⟨Z,s2,f,h,H⟩
 subst a1
 refine rg λK k=>ae 2 h O λa h=>cz k ?_
 cases f
 refine r2 hr h O O O ⟨O,H.out⟩
 refine rg λK k=>?_
 obtain⟨c4,f⟩:=ck f
 obtain⟨z5,e5,f⟩:=bv f
 refine cW (data:=z5) h H O O O ((by rw[e5];exact dC call42 (eG c4 (hG.ext H.out).toGW))) λE Z w ao X H g a h=>?_
 refine s1 h O (bY lg O (g.at H.zin)) λa h=>ae 1 h O λa h=>cz k<|lb ?_
 obtain⟨B8,a6,f⟩:=bv f
 refine ib (λF a w=>∃(Z:FZ) (s8:Int),loopF B8 F s8=some u/\Fr 19 [(0,S x0),(6,E),(7,I (z5.length:Int)),(8,I s8)] a/\HZ w0 Zi Z [] w/\bx Z E 1 eS z5) KK ⟨_,_,f,h.to,H,g⟩ ?_
 rintro F a w ⟨Z,s8,f,h,H,g⟩
 obtain⟨F,rfl,n8,a7,f⟩:=iJ a6 f
 refine rg λK k=>sB h f O (bn O O) λb0 b1 f a h=>cz k<|sq<|cI h f O (λG f=>?_) λG f=>?_
 refine ag<|sb ?_
 refine rg λK k=>ae 1 h O λa h=>?_
 obtain⟨J,f⟩:=ck f
 obtain⟨a8,ad,f⟩:=bv f
 refine bB h lg Z9 O O (g.at H.zin) (λ_=>rfl) a8 J.1 (by rw[ad];exact ak J) rfl λa b2 af h=>?_
 refine s1 h O (al O af A9 O) λa h=>ae 2 h O λa h=>cN k h [0,4,5,6,7,8] O6 λh=>?_
 refine rg λK k=>ae 2 h O λa h=>sB h f O (aH O O) λb3 b4 f a h=>cz k<|cI h f O (λW f=>?_) λW f=>?_
 refine rg λK k=>ae 1 h O λa h=>sI h f O (aw O O) λb5 b6 f a h=>ae 2 h O λa h=>cN k h [2,3] O2 λh=>?_
 cases f
 refine r2 hr h O O O ⟨O,H.out⟩
 refine ag<|cO h [0,6,7,8] O4 λh=>?_
 refine ah<|sI h f O (aw O O) λb7 bb f a h=>ae 1 h O λa h=>am ?_
 exact fK (bp ⟨fq a7 f,h.to,H,g⟩)
 exact aR (tH ⟨f,h.to,H⟩)
theorem mx{x0:List UInt8}{x1:Int}{u:Rf × Bool}{w0:World}(f:cG x0 x1=some u) (hG:jY w0):Calls prog 133 [S x0,I x1].toArray w0 (bj λv w=>v=.tuple #[.agg #[I u.1.c.s,I u.1.c.c,I u.1.c.r,.bool u.1.ac,.bool u.1.ar],.bool u.2]/\Ext w0 w):=by
 refine en func133 [0,1] O2 λQ a Zi Z a7 H h hr=>?_
 clear a7
 unfold cG at f
 refine rg λK k=>zA h H AK O5 (λx=>[x]) λa p1 w X H h=>?_
 refine ae 1 h O λa h=>cz k<|rg λK k=>s1 h O (aS wN [] O5 O O) λa h=>zA h H AK O5 (λx=>[_,x]) λa p2 w X H h=>?_
 refine zS h H 1 iR O5 O5 O2 λw H=>?_
 refine cz k<|rg λK k=>ae 1 h O λa h=>s1 h O (ab O lF O dm O O) λa h=>s1 h O (ab O gH O Z3 O O) λa h=>zS h H 1 Z3 [_] O5 O2 λw H=>?_
 refine cN k h [0,4,6] O3 λh=>?_
 obtain⟨J4,a8,f⟩:=bv f
 refine dA (λa w=>∃(Z:FZ) (G:(List UInt8) × Int),J4 G=some u/\Fr 114 [(0,S G.1),(4,(pt p1)),(6,(pt p2))] a/\HZ w0 Zi Z [.blk p1 (aB [I 0,I 0,I 0,.bool false,.bool false] 31),.blk p2 (aB [I G.2,I 0,I 0,.bool false,.bool false] 31)] w) ?_ ?_
 rintro a w ⟨Z,G,f,h,H⟩
 subst a8
 refine rg λK k=>ae 1 h O λa h=>?_
 obtain⟨z6,e6,f⟩:=bv f
 refine d_ (T:=Ext) (V:=.tuple #[S z6.1,.bool z6.2]) h O O O ((by rw[e6];exact dC call109 (jU))) λw X a h=>?_
 have H:=H.ext X
 refine ae 4 h O λa h=>s1 h O (ab O lF O sizeOf4 O O) λa h=>zS h H 1 sizeOf4 [_] O5 O2 λw H=>?_
 refine cN k h [0,4,6] O3 λh=>?_
 refine sq<|rg λK k=>ae 1 h O λa h=>sB h f O (aH O O) λz8 e8 f a h=>ae 1 h O λa h=>ai h O O (gF O) O O (λg=>an O) λa h=>?_
 obtain⟨c9,f⟩:=ck f
 obtain⟨e3,ad,f⟩:=bv f
 refine ai h O O (gF O) O O (λg=>vI ad (gi U9 (eg g O) O (c9 g))) λa h=>?_
 obtain⟨e4,af,f⟩:=bv f
 refine ai h O O (gF O) O O (λg=>vB af (bn (eg g O) O)) λa h=>?_
 refine sB h f O (ca O O) λe5 e7 f a h=>ae 1 h O λa h=>ai h O O (gF O) O O (λg=>an O) λa h=>?_
 obtain⟨ao,f⟩:=ck f
 obtain⟨e9,b0,f⟩:=bv f
 refine ai h O O (gF O) O O (λg=>vI b0 (gi U9 (eg g O) O (ao g))) λa h=>?_
 obtain⟨ea,b1,f⟩:=bv f
 refine ai h O O (gF O) O O (λg=>vB b1 (dS (eg g O) O)) λa h=>?_
 refine sB h f O (ca O O) λeb ec f a h=>cN k h [0,4,6,66] O4 λh=>?_
 refine cI h f O (λJ f=>?_) λJ f=>?_
 exact nomatch f
 refine ag<|rg λK k=>ae 1 h O λa h=>?_
 obtain⟨b2,f⟩:=ck f
 refine sI h f O (gi U9 O O b2) λed ef f a h=>sI h f O (bf O O) λei ej f a h=>sI h f O (db (by rw[U5];rfl) U3 rfl rfl) λb3 el f a h=>s1 h rfl (ab rfl lF rfl dm rfl rfl) λa h=>s1 h rfl (ab rfl gH rfl Z3 rfl rfl) λa h=>zS h H 1 Z3 [_] O5 O2 λw H=>?_
 refine cN k h [0,4,6] O3 λh=>?_
 refine rg λK k=>ae 1 h O λa h=>?_
 obtain⟨b4,f⟩:=ck f
 refine sS h f O (pG U9 O O b4) λeo ep f a h=>?_
 obtain⟨W,b5,f⟩:=bv f
 refine d_ (T:=Ext) (V:=.tuple #[S W.1,.bool W.2]) h O O O ((by rw[b5];exact dC call109 (jU))) λw X a h=>?_
 have H:=H.ext X
 refine ae 4 h O λa h=>s1 h O (ab O lF O sizeOf4 O O) λa h=>zS h H 1 sizeOf4 [_] O5 O2 λw H=>?_
 refine cN k h [0,4,6] O3 λh=>?_
 refine rg λK k=>ae 1 h O λa h=>?_
 obtain⟨b6,f⟩:=ck f
 obtain⟨er,b7,f⟩:=bv f
 refine st2 h O O O (dC call181 (zm b6 (hG.ext H.out))) ?_
 rintro v_ w ⟨bb,rfl,E,X⟩ a h
 have H:=H.ext X
 rw[<-b7]at E h
 refine ae 5 h O λa h=>cN k h [0,4,6,10,11] O5 λh=>?_
 refine sq<|rg λK k=>ae 1 h O λa h=>sB h f O (zW Dw O E) λet eu f a h=>ae 1 h O λa h=>ai h O O (gF O) O O (λg=>an O) λa h=>?_
 obtain⟨bk,f⟩:=ck f
 obtain⟨bq,bs,f⟩:=bv f
 refine mh (T:=Ext) (V:=S bq) h O O (gF O) O O (Ext.refl _) (λg=>(by rw[bs];exact fM [_] (fp (eg g rfl) iH) call104 (nN (bk g)))) λw X a h=>?_
 have H:=H.ext X
 refine ai h O O (gF O) O O (λg=>an O) λa h=>?_
 obtain⟨ew,c6,f⟩:=bv f
 refine ai h O O (gF O) O O (λg=>vB c6 (oF (eg g O) (eg g O))) λa h=>?_
 refine sB h f O (ca O O) λey ez f a h=>ae 1 h O λa h=>ai h O O (gF O) O O (λg=>an O) λa h=>?_
 obtain⟨eF,c7,f⟩:=bv f
 refine ai h O O (gF O) O O (λg=>vB c7 (bn (eg g O) O)) λa h=>?_
 refine sB h f O (ca O O) λeJ eZ f a h=>ae 1 h O λa h=>ai h O O (gF O) O O (λg=>an O) λa h=>?_
 obtain⟨ff,c8,f⟩:=bv f
 refine ai h O O (gF O) O O (λg=>vB c8 (dS (eg g O) O)) λa h=>?_
 refine sB h f O (ca O O) λfs gb f a h=>ae 1 h O λa h=>ai h O O (gF O) O O (λg=>ab O lF O dm O O) λa h=>?_
 refine ai h O O (gF O) O O (λg=>dL O3 (eg g O) iT dm (H.hp.get 1 O) O O) λa h=>?_
 obtain⟨cc,f40,f⟩:=bo f
 refine mh (T:=Ext) (V:=.bool cc) h O O (gF O) O O (Ext.refl _) (λg=>fM [_] (fp (eg g O) iH) call91 (ia (x0:=(⟨G.2,b3,0⟩:C)) (uL g f40))) λw X a h=>?_
 have H:=H.ext X
 obtain⟨gf,ch,f⟩:=bv f
 refine ai h O O (gF O) O O (λg=>vB ch (dI (eg g O))) λa h=>?_
 refine sB h f O (ca O O) λgg gl f a h=>cN k h [4,6,10,107] O4 λh=>?_
 refine cI h f O (λY f=>?_) λY f=>?_
 refine rg λK k=>s1 h O (aS wN [] O5 O O) λa h=>zS h H 0 iR O5 O5 O2 λw H=>?_
 refine ae 1 h O λa h=>cN k h [4,5] O2 λh=>?_
 cases f
 refine r2 hr h O (aO H 0 mP iR O5) O ⟨O,H.out⟩
 refine ag<|rg λK k=>ae 1 h O λa h=>sI h f O (bf O O) λgm h0 f a h=>s1 h O (ab O lF O dm O O) λa h=>s1 h O (ab O gH O Z3 O O) λa h=>zS h H 1 Z3 [_] O5 O2 λw H=>?_
 refine cN k h [4,6] O2 λh=>?_
 refine rg λK k=>s1 h O (lA H 1 mP iR O5) λa h=>zS h H 0 iR O5 O5 O2 λw H=>?_
 refine ae 1 h O λa h=>cz k ?_
 cases f
 refine r2 hr h O (aO H 0 mP iR O5) O ⟨O,H.out⟩
 refine rg λK k=>ae 1 h O λa h=>?_
 obtain⟨cp,f⟩:=ck f
 obtain⟨F,ct,f⟩:=bv f
 refine d_ (T:=Ext) (V:=.tuple #[S F.1,S F.2.1,.bool F.2.2]) h O O O ((by rw[ct];exact dC call180 (AQ cp (hG.ext H.out).toGW))) λw X a h=>?_
 have H:=H.ext X
 refine ae 7 h O λa h=>cN k h [0,4,6,7,8,9] O6 λh=>?_
 refine rg λK k=>ae 1 h O λa h=>cz k<|cI h f O (λa1 f=>?_) λa1 f=>?_
 refine sq<|rg λK k=>ae 1 h O λa h=>s1 h O (dE U9 O) λa h=>sB h f O (fN O O) λh2 h3 f a h=>ae 1 h O λa h=>ai h O O (gF O) O O (λg=>an O) λa h=>?_
 obtain⟨cx,f⟩:=ck f
 obtain⟨h4,cy,f⟩:=bv f
 refine ai h O O (gF O) O O (λg=>vI cy (gi U9 (eg g O) O (cx g))) λa h=>?_
 obtain⟨h5,da,f⟩:=bv f
 refine ai h O O (gF O) O O (λg=>vB da (fN (eg g O) O)) λa h=>?_
 refine sB h f O (ca O O) λh6 h7 f a h=>ae 1 h O λa h=>ai h O O (gF O) O O (λg=>an O) λa h=>?_
 obtain⟨dd,f⟩:=ck f
 obtain⟨h8,dj,f⟩:=bv f
 refine ai h O O (gF O) O O (λg=>vI dj (gi U9 (eg g O) O (dd g))) λa h=>?_
 obtain⟨h9,dn,f⟩:=bv f
 refine ai h O O (gF O) O O (λg=>vB dn (bn (eg g O) O)) λa h=>?_
 refine sB h f O (ca O O) λha hb f a h=>ae 1 h O λa h=>ai h O O (gF O) O O (λg=>an O) λa h=>?_
 obtain⟨dv,f⟩:=ck f
 obtain⟨hc,dz,f⟩:=bv f
 refine ai h O O (gF O) O O (λg=>vI dz (gi U9 (eg g O) O (dv g))) λa h=>?_
 obtain⟨hf,e1,f⟩:=bv f
 refine ai h O O (gF O) O O (λg=>vB e1 (gI (eg g O) O)) λa h=>?_
 refine sB h f O (ca O O) λhg hj f a h=>cN k h [4,6,7,8,40] O5 λh=>?_
 refine cI h f O (λa6 f=>?_) λa6 f=>?_
 exact nomatch f
 refine ag<|ah<|ae 1 h O λa h=>?_
 obtain⟨e2,f⟩:=ck f
 refine sI h f O (gi U9 O O e2) λhn ho f a h=>sI h f O (bf O O) λhq ht f a h=>sI h f O (db (by rw[U5];rfl) U3 rfl rfl) λhv hx f a h=>ae 1 h rfl λa h=>s1 h rfl (ab rfl lF rfl dm rfl rfl) λa h=>s1 h rfl (ab rfl gH rfl Z3 rfl rfl) λa h=>zS h H 1 Z3 [_] O5 O2 λw H=>?_
 refine ae 1 h O λa h=>am ?_
 exact bp ⟨f,h.to,H⟩
 exact ag (bp ⟨f,h.to,H⟩)
theorem im{x0:List Tk}{E F G:Int}{x1:List UInt8}{W:Unit × (List Tk)}{w0:World}(u:ce x0 E F G x1=some W){Z:FZ}(hZ:Z.inn w0){f:Nat}{J:Value}(a8:bx Z J 3 fa x0) (ad:w0.heap[f]?=some (aB [J,I E,I F,I G] 91)) (af:Z f=none){Y:Bs}(eB:Y=⟨w0,[f]⟩){Zi:FZ}(eZ:Zi=Z):Calls prog 136 [(pt f),S x1].toArray w0 (bj λv w=>v=.tuple #[]/\(∃a1,w.heap[f]?=some (aB [a1,I E,I F,I G] 91)/\bx (ZB Zi w0.heap.size w) a1 3 fa W.2)/\ExtB Y w):=by
 have H:HZ Y Zi Z [.blk f (aB [J,I E,I F,I G] 91)] w0:=by rw[eB,eZ];exact HZ.dH hZ ad af
 refine tf func136 [0,1] O2 λQ a h hr hn=>?_
 clear eZ
 have H:HZ Y _ _ [_] _:=H
 unfold ce at u
 refine rg λK k=>ae 2 h O λa h=>?_
 obtain⟨y1,f1,u⟩:=bo u
 refine st2 h O O O (dC call99 (cQ f1 H.zin a8 (H.hp.get 0 O) (H.dG 0 O _ O) O O)) ?_
 rintro v_ w ⟨rfl,⟨b0,a6,g⟩,X⟩ a h
 obtain⟨Z,b1,a7,H⟩:=H.b_ 0 rfl a6 X (hl':=[_]) rfl
 have g:=g.sub a7
 have H:HZ Y _ _ [_] _:=H
 refine sB h u O (dI O) λz3 e3 u a h=>cN k h [7] [_] λh=>?_
 refine cI h u O (λao u=>?_) λao u=>?_
 exact nomatch u
 refine ag ?_
 cases u
 exact hn _ _ (Cw h O ⟨O,⟨_,H.hp.get 0 O,g.sub (H.bD eB 0 O)⟩,H.a_⟩)
theorem lz{x0:List Tk}{af ao b0:Int}{x1:Rf}{g:(Nd) × (List Tk)}{w0:World}(f:dc x0 af ao b0 x1=some g){Z:FZ}(hZ:Z.inn w0){a1:Nat}{b4:Value}(bb:bx Z b4 3 fa x0) (bk:w0.heap[a1]?=some (aB [b4,I af,I ao,I b0] 91)) (cy:Z a1=none){B0:Bs}(eB:B0=⟨w0,[a1]⟩){Zi:FZ}(eZ:Zi=Z) (hG:jY w0):Calls prog 183 [(pt a1),.agg #[I x1.c.s,I x1.c.c,I x1.c.r,.bool x1.ac,.bool x1.ar]].toArray w0 (bj λv w=>∃u1,v=.agg #[I g.1.k,I g.1.op,I g.1.v.k,I g.1.v.n,S g.1.v.s,I g.1.a.c.s,I g.1.a.c.c,I g.1.a.c.r,.bool g.1.a.ac,.bool g.1.a.ar,I g.1.b.c.s,I g.1.b.c.c,I g.1.b.c.r,.bool g.1.b.ac,.bool g.1.b.ar,S g.1.nm,u1]/\bi (ZB Zi w0.heap.size w) u1 aj g.1.l/\(∃bq,w.heap[a1]?=some (aB [bq,I af,I ao,I b0] 91)/\bx (ZB Zi w0.heap.size w) bq 3 fa g.2)/\ExtB B0 w):=by
 have H:HZ B0 Zi Z [.blk a1 (aB [b4,I af,I ao,I b0] 91)] w0:=by rw[eB,eZ];exact HZ.dH hZ bk cy
 refine tf func183 [0,1] O2 λQ a h hr hn=>?_
 have da:∀w,ExtB B0 w->jY w:=λw X=>hG.qw bb.form bk rfl eB X
 clear eZ
 have H:HZ B0 _ _ [_] _:=H
 unfold dc at f
 refine rg λK k=>aZ h H O O5 O O λa p1 w X H h=>?_
 have H:HZ B0 _ _ O2 _:=H
 refine zA h H iS aA (λx=>[_,_,x]) λa p2 w X H h=>?_
 refine cz k<|sq<|rg λK k=>ae 1 h O λa h=>?_
 obtain⟨y4,f4,f⟩:=bo f
 refine st2 h O O O (dC call99 (cQ f4 H.zin bb (H.hp.get 0 O) (H.dG 0 O _ O) O O)) ?_
 rintro v_ w ⟨rfl,⟨ed,bs,J⟩,X⟩ a h
 obtain⟨Z,ad,a6,H⟩:=H.b_ 0 rfl bs X (hl':=O3) rfl
 have J:=J.sub a6
 have H:HZ B0 _ _ O3 _:=H
 refine sB h f O (dI O) λz6 e6 f a h=>cz k<|cI h f O (λdd f=>?_) λdd f=>?_
 refine rg λK k=>s1 h O (lA H 1 mP iR O5) λa h=>?_
 obtain⟨y8,f8,f⟩:=bo f
 refine st2 h O O O (dC call19 (m8 (x0:=x1) f8)) ?_
 rintro v_ w ⟨c6,rfl,G,X⟩ a h
 obtain⟨Z,ad,a6,H⟩:=H.aP X
 have J:=J.sub ad
 have G:=G.sub (ZB.empty.trans a6)
 refine ap h H 2 O O O aL aA O O (by obtain⟨_,_,_,e_⟩:=(G).form;subst e_;rfl) (by simp) aA rfl (hl':=O3) rfl λw H=>?_
 refine cN k h [4] [_] λh=>?_
 cases f
 refine r1 hr h O (aO H 2 bQ aL aA) ⟨_,O,G.sub (H.bD eB 0 O),⟨_,H.hp.get 0 O,J.sub (H.bD eB 0 O)⟩,H.a_⟩
 refine ag<|cO h [0,3,4] O3 λh=>?_
 obtain⟨dj,c7,f⟩:=bv f
 refine dA (λa w=>∃(Z:FZ) (b5:(List (Tk))) (W:Value),dj b5=some g/\Fr 68 [(0,(pt a1)),(3,(pt p1)),(4,(pt p2))] a/\HZ B0 Zi Z [.blk a1 (aB [W,I af,I ao,I b0] 91),.blk p1 (aB [I x1.c.s,I x1.c.c,I x1.c.r,.bool x1.ac,.bool x1.ar] 31),.blk p2 (aB [I 0,I 0,I 0,I 0,S [],I 0,I 0,I 0,.bool false,.bool false,I 0,I 0,I 0,.bool false,.bool false,S [],.slice none 0 0] 34)] w/\bx Z W 3 fa b5) ?_ ?_
 rintro a w ⟨Z,b5,W,f,h,H,a7⟩
 subst c7
 refine D4 15 [13] h ?_
 refine bN 1 O ?_
 refine F1 O (λw X=>ax O) ?_
 refine F1 O (λw X=>ab O ku O jW O O) ?_
 refine F1 O (λw X=>have H:=H.ext X;l1 H 0 oN) ?_
 obtain⟨c8,f⟩:=ck f
 obtain⟨b2,dn,f⟩:=bv f
 refine aT [34] O O O O false (.rel (λw' v'=>At w' v' fa b2 0)) aI (λw X=>?_) ?_
 skip
 exact have H:=H.ext X;fh nK ee O O (a7.at H.zin) (λ_=>rfl) b2 c8.1 (by rw[dn];exact ak c8)
 refine aT [35] O O O O false (.rel (λw' v'=>At w' v' fa b2 1)) aI (λw X=>?_) ?_
 intro ef dv
 exact dU O dv j1 O Z9 O O
 refine aT [36] O O O O false (.eq (S b2.s)) trivial (λw X=>?_) ?_
 intro ei dz
 exact(al O dz A9 O).bC
 refine F1 O (λw X=>ab O lF O dm O O) ?_
 refine F1 O (λw X=>ab O gH O Z3 O O) ?_
 refine F1 O (λw X=>have H:=H.ext X;l1 H 1 A3) ?_
 refine fC f O (λa8 f15 w X=>have H:=H.ext X;dC call133 (mx f15 (da _ H.a_) :)) λa8 f=>?_
 refine bN 3 O ?_
 refine gu AK O5 O O ?_
 refine wT ?_
 intro a w X hR hA
 obtain⟨_,⟨cc,rfl,e1⟩,h⟩:=hR.out [0,3,4,5,42,43]
 have h:Fr 68 [(43,_),(42,_),(5,_),(4,_),(3,_),(0,_)] a:=h
 have e2:=hA.zt h (s:=5) rfl rfl
 have H:=H.tG X e1 e2
 have H:HZ B0 _ _ O4 _:=H
 refine tS h H 3 iR O5 O5 O4 λw H=>?_
 refine yp 1 h O λa h=>?_
 refine tE ?_
 obtain⟨e3,ch,f⟩:=bv f
 refine dA (λa w=>∃(Z:FZ) (b6:(List (Tk))) (Y:Value),e3 b6=some g/\Fr 68 [(0,(pt a1)),(3,(pt p1)),(4,(pt p2)),(5,(pt cc))] a/\HZ B0 Zi Z [.blk a1 (aB [Y,I af,I ao,I b0] 91),.blk p1 (aB [I x1.c.s,I x1.c.c,I x1.c.r,.bool x1.ac,.bool x1.ar] 31),.blk p2 (aB [I 0,I 0,I 0,I 0,S [],I 0,I 0,I 0,.bool false,.bool false,I 0,I 0,I 0,.bool false,.bool false,S [],.slice none 0 0] 34),.blk cc (aB [I a8.1.c.s,I a8.1.c.c,I a8.1.c.r,.bool a8.1.ac,.bool a8.1.ar] 31)] w/\bx Z Y 3 fa b6) ?_ ?_
 rintro a w ⟨Z,b6,Y,f,h,H,b1⟩
 subst ch
 refine rg λK k=>ae 2 h O λa h=>s1 h O (ax O) λa h=>s1 h O (ab O ku O jW O O) λa h=>s1 h O (l1 H 0 oN) λa h=>?_
 obtain⟨e4,f⟩:=ck f
 obtain⟨ej,e5,f⟩:=bv f
 refine jq (enc:=fa) (sz:=3) (λ_=>rfl) h nK ee O O b1 e4 O λa b3 E h=>?_
 rw[<-e5]at E
 refine s1 h O (ax O) λa h=>s1 h O (ab O ku O jW O O) λa h=>ap h H 0 O O O jW [b3] (by rw[E.cells]) rfl (by obtain⟨_,_,_,e_⟩:=(E).form;subst e_;rfl) (by simp) O4 rfl (hl':=O4) rfl λw H=>?_
 refine cN k h [3,4,5] O3 λh=>?_
 refine rg λK k=>s1 h O (lA H 1 mP iR O5) λa h=>s1 h O (lA H 3 mP iR O5) λa h=>?_
 obtain⟨el,f23,f⟩:=bo f
 refine st2 h O O O (dC call21 (ny (x0:=x1) (x1:=a8.1) f23)) ?_
 rintro v_ w ⟨b7,rfl,F,X⟩ a h
 obtain⟨Z,ad,a6,H⟩:=H.aP X
 have E:=E.sub ad
 have F:=F.sub (ZB.empty.trans a6)
 refine ap h H 2 O O O aL aA O O (by obtain⟨_,_,_,e_⟩:=(F).form;subst e_;rfl) (by simp) aA rfl (hl':=O4) rfl λw H=>?_
 refine cN k h [4] [_] λh=>?_
 cases f
 refine r1 hr h O (aO H 2 bQ aL aA) ⟨_,O,F.sub (H.bD eB 0 O),⟨_,H.hp.get 0 O,E.sub (H.bD eB 0 O)⟩,H.a_⟩
 refine rg λK k=>ae 1 h O λa h=>sB h f O (dI O) λeo ep f a h=>ae 1 h O λa h=>ai h O O (gF O) O O (λu=>ab O lF O dm O O) λa h=>?_
 refine ai h O O (gF O) O O (λu=>ab (eg u O) gH O Z3 O O) λa h=>?_
 refine ai h O O (gF O) O O (λu=>aE (eg u O) A3 (H.hp.get 3 O) O) λa h=>?_
 refine ai h O O (gF O) O O (λu=>ab O lF O dm O O) λa h=>?_
 refine ai h O O (gF O) O O (λu=>ab (eg u O) gH O Z3 O O) λa h=>?_
 refine ai h O O (gF O) O O (λu=>aE (eg u O) A3 (H.hp.get 1 O) O) λa h=>?_
 obtain⟨er,e7,f⟩:=bv f
 refine ai h O O (gF O) O O (λu=>vB e7 (fN (eg u O) (eg u O))) λa h=>?_
 refine sB h f O (ca O O) λet eu f a h=>cN k h [0,3,4,5,54] O5 λh=>?_
 refine cI h f O (λcp f=>?_) λcp f=>?_
 exact nomatch f
 exact ag (iP ⟨f,h.to,H,a7⟩)
 refine rg λK k=>ae 1 h O λa h=>s1 h O (ax O) λa h=>s1 h O (ab O ku O jW O O) λa h=>s1 h O (l1 H 0 oN) λa h=>s1 h O (bY nK O (J.at H.zin)) λa h=>sB h f O (aD O O) λew ey f a h=>ae 1 h O λa h=>ai h O O (gF O) O O (λu=>an O) λa h=>?_
 refine ai h O O (gF O) O O (λu=>ax (eg u O)) λa h=>?_
 refine ai h O O (gF O) O O (λu=>ab (eg u O) ku O jW O O) λa h=>?_
 refine ai h O O (gF O) O O (λu=>aE (eg u O) oN (H.hp.get 0 O) O) λa h=>?_
 obtain⟨ct,f⟩:=ck f
 obtain⟨e8,e9,f⟩:=bv f
 refine fv h O (gF O) nK ee (λu=>(eg u O)) (λu=>rfl) (J.at H.zin) (λ_=>rfl) e8 (λu=>(ct u).1) (λu=>(by rw[e9];exact ak (ct u))) rfl λa ez ea h=>?_
 refine gj h O (gF O) (λu=>(eg u O)) (λu=>(ea u)) j1 O Z3 O O O λa eF eb h=>?_
 refine ai h O O (gF O) O O (λu=>al (eg u O) (eb u) A3 O) λa h=>?_
 obtain⟨eJ,ec,f⟩:=bv f
 refine ai h O O (gF O) O O (λu=>vB ec (fN (eg u O) O)) λa h=>?_
 refine sB h f O (ca O O) λff fs f a h=>cN k h [0,3,4,27] O4 λh=>?_
 refine cI h f O (λcx f=>?_) λcx f=>?_
 exact nomatch f
 exact ag (iP ⟨f,h.to,H,J⟩)
def sx(rec:(List Tk)->Int->Int->Int->Int->Option ((Nd) × (List Tk))):Prop:=∀{x0:List Tk}{u:Int}{E:Int}{F:Int}{x1:Int}{f:(Nd) × (List Tk)}{w0:World}(hS:rec x0 u E F x1=some f){Z:FZ}(hZ:Z.inn w0){g:Nat}{G:Value}(X:bx Z G 3 fa x0) (Y:w0.heap[g]?=some (aB [G,I u,I E,I F] 91)) (a1:Z g=none){J:Bs}(eB:J=⟨w0,[g]⟩){Zi:FZ}(eZ:Zi=Z) (hG:jY w0),Calls prog 39 [(pt g),I x1].toArray w0 (bj λv w=>∃W,v=.agg #[I f.1.k,I f.1.op,I f.1.v.k,I f.1.v.n,S f.1.v.s,I f.1.a.c.s,I f.1.a.c.c,I f.1.a.c.r,.bool f.1.a.ac,.bool f.1.a.ar,I f.1.b.c.s,I f.1.b.c.c,I f.1.b.c.r,.bool f.1.b.ac,.bool f.1.b.ar,S f.1.nm,W]/\bi (ZB Zi w0.heap.size w) W aj f.1.l/\(∃H,w.heap[g]?=some (aB [H,I u,I E,I F] 91)/\bx (ZB Zi w0.heap.size w) H 3 fa f.2)/\ExtB J w)
theorem lR{rec:(List Tk)->Int->Int->Int->Int->Option ((Nd) × (List Tk))}(eb:sx rec){x0:List Tk}{b7:Int}{bb:Int}{bk:Int}{x1:Tk}{J:(Nd) × (List Tk)}{w0:World}(u:cq rec x0 b7 bb bk x1=some J){Z:FZ}(hZ:Z.inn w0){af:Nat}{dj:Value}(b5:bx Z dj 3 fa x0) (cy:w0.heap[af]?=some (aB [dj,I b7,I bb,I bk] 91)) (dn:Z af=none){B0:Bs}(eB:B0=⟨w0,[af]⟩){Zi:FZ}(eZ:Zi=Z) (hG:jY w0):Calls prog 182 [(pt af),.agg #[I x1.k,S x1.s,I x1.a]].toArray w0 (bj λv w=>∃u1,v=.agg #[I J.1.k,I J.1.op,I J.1.v.k,I J.1.v.n,S J.1.v.s,I J.1.a.c.s,I J.1.a.c.c,I J.1.a.c.r,.bool J.1.a.ac,.bool J.1.a.ar,I J.1.b.c.s,I J.1.b.c.c,I J.1.b.c.r,.bool J.1.b.ac,.bool J.1.b.ar,S J.1.nm,u1]/\bi (ZB Zi w0.heap.size w) u1 aj J.1.l/\(∃ec,w.heap[af]?=some (aB [ec,I b7,I bb,I bk] 91)/\bx (ZB Zi w0.heap.size w) ec 3 fa J.2)/\ExtB B0 w):=by
 have H:HZ B0 Zi Z [.blk af (aB [dj,I b7,I bb,I bk] 91)] w0:=by rw[eB,eZ];exact HZ.dH hZ cy dn
 refine tf func182 [0,1] O2 λQ a h hr hn=>?_
 have dv:∀w,ExtB B0 w->jY w:=λw X=>hG.qw b5.form cy rfl eB X
 clear eZ
 have H:HZ B0 _ _ [_] _:=H
 unfold cq at u
 refine rg λK k=>aZ h H O [_] O O λa p1 w X H h=>?_
 have H:HZ B0 _ _ O2 _:=H
 refine aZ h H O O3 O O λa p2 w X H h=>?_
 have H:HZ B0 _ _ O3 _:=H
 refine zA h H iS aA (λx=>[_,_,_,x]) λa p3 w X H h=>?_
 refine cz k<|rg λK k=>s1 h O (ab O j1 O Z9 O O) λa h=>s1 h O (l1 H 2 A9) λa h=>sC h H u O (λy4 f4=>dC call132 (pE f4 (dv _ H.a_).toGW :)) λy4 u w X H a h=>?_
 refine ae 1 h O λa h=>cN k h [2,3,4,5] O4 λh=>?_
 refine sq<|rg λK k=>ae 1 h O λa h=>sB h u O (aD O O) λz6 e6 u a h=>ae 1 h O λa h=>ai h O O (gT O) O O (λe0=>ab O j1 O Z9 O O) λa h=>?_
 refine ai h O O (gT O) O O (λe0=>aE (eg e0 O) A9 (H.hp.get 2 O) O) λa h=>?_
 obtain⟨z7,e7,u⟩:=bv u
 refine ai h O O (gT O) O O (λe0=>vB e7 (oF (eg e0 O) O)) λa h=>?_
 refine sB h u O (bK O O) λz8 e8 u a h=>cN k h [2,4,5,16] O4 λh=>?_
 refine cI h u O (λew u=>?_) λew u=>?_
 exact nomatch u
 refine ag<|nV 8 h λK k=>?_
 refine F1 O (λw X=>have H:=H.ext X;l1 H 1 pg) ?_
 refine F1 O (λw X=>have H:=H.ext X;l1 H 1 pg) ?_
 refine F1 O (λw X=>ax O) ?_
 refine F1 O (λw X=>ab O ku O jW O O) ?_
 refine F1 O (λw X=>have H:=H.ext X;l1 H 0 oN) ?_
 obtain⟨ey,u⟩:=ck u
 obtain⟨ez,eF,u⟩:=bv u
 refine aT [23] O O O O false (.rel (λw' v'=>bx (ZB Z w.heap.size w') v' 3 fa ez)) jG (λw X=>?_) ?_
 skip
 exact have Hs:=ZB.of H.zin X;have H:=H.ext X;dt.jw (nw (enc:=fa) (sz:=3) (λ_=>rfl) nK ee O O b5 ey) (λv w' hr=>by obtain⟨hr,rfl⟩:=hr;exact⟨by rw[eF];exact hr.sub Hs,Ext.refl _⟩)
 refine F1 O (λw X=>ax O) ?_
 refine F1 O (λw X=>ab O ku O jW O O) ?_
 refine wT ?_
 intro a w X hR hA
 obtain⟨da,Y,h⟩:=hR.out [2,4,5,24,26]
 have h:Fr 60 [(26,_),(24,_),(5,_),(4,_),(2,_)] a:=h
 obtain⟨Z,g,a6,H⟩:=H.aP X
 have b5:=b5.sub g
 have Y:=Y.sub a6
 refine ap h H 0 O O O jW [da] (by rw[Y.cells]) rfl (by obtain⟨_,_,_,e_⟩:=(Y).form;subst e_;rfl) (by simp) O4 rfl (hl':=O4) rfl λw H=>?_
 refine cz k<|rg λK k=>ae 1 h O λa h=>cz k ?_
 obtain⟨Z,g,H,f⟩:=H.i8 1 rfl rfl
 have Y:=Y.sub g
 have b5:=b5.sub g
 have H:HZ B0 _ _ O4 _:=H
 have H:=H.fc 34 17 rfl
 have H:HZ B0 _ _ O5 _:=H
 have G:EL aj Z ([]:List (Cl 17)) ([]:List (Nd)):=trivial
 obtain⟨eJ,ed,u⟩:=bv u
 refine Bg (λa w=>∃(Z:FZ) (c8:(List (Tk)) × (List (Nd))) (ao:Value) (cc:Value) (c6:List (Cl 17)),eJ c8=some J/\Fr 60 [(4,(pt p3)),(5,I y4),(6,cc)] a/\HZ B0 Zi Z [.blk af (aB [ao,I b7,I bb,I bk] 91),.row 0 1 (.slice none 0 0) 0 [],.blk p2 (aB [I x1.k,S x1.s,I x1.a] 109),.blk p3 (aB [I 0,I 0,I 0,I 0,S [],I 0,I 0,I 0,.bool false,.bool false,I 0,I 0,I 0,.bool false,.bool false,S [],.slice none 0 0] 34),.row 34 17 cc c6.length (c6.flatMap Subtype.val)] w/\bx Z ao 3 fa c8.1/\EL aj Z c6 c8.2/\Z p1=some (aB [(pt af)] 89)) ?_ ?_
 rintro a w ⟨Z,c8,ao,cc,c6,u,h,H,F,G,f⟩
 subst ed
 obtain⟨Z,g,H,a1⟩:=H.mX (E:=aj) 4 rfl G
 have F:=F.sub g
 have f:=g _ _ f
 have H:HZ B0 _ _ O5 _:=H
 refine sq<|rg λK k=>ae 1 h O λa h=>sB h u O (aD O O) λh5 h6 u a h=>ae 1 h O λa h=>ai h O O (gT O) O O (λe0=>an O) λa h=>?_
 refine ai h O O (gT O) O O (λe0=>cd dZ (eg e0 O) a1 H.zin) λa h=>?_
 obtain⟨h7,ff,u⟩:=bv u
 refine ai h O O (gT O) O O (λe0=>vB ff (aD (eg e0 O) O)) λa h=>?_
 refine sB h u O (bK O O) λh8 h9 u a h=>cN k h [4,5,6,47] O4 λh=>?_
 refine cI h u O (λef u=>?_) λef u=>?_
 refine rg λK k=>s1 h O (aS my [] O3 O O) λa h=>?_
 obtain⟨ha,f24,u⟩:=bo u
 refine st2 h O O O (dC call15 (aX (x0:=(⟨0,0,[]⟩:V)) f24)) ?_
 rintro v_ w ⟨e9,rfl,a7,X⟩ a h
 obtain⟨Z,g,a6,H⟩:=H.aP X
 have F:=F.sub g
 have a1:=a1.sub g
 have f:=g _ _ f
 have a7:=a7.sub (ZB.empty.trans a6)
 refine ap h H 3 O O O aL aA O O (by obtain⟨_,_,_,e_⟩:=(a7).form;subst e_;rfl) (by simp) aA rfl (hl':=O5) rfl λw H=>?_
 refine cN k h [4] [_] λh=>?_
 cases u
 refine r1 hr h O (aO H 3 bQ aL aA) ⟨_,O,a7.sub (H.bD eB 0 O),⟨_,H.hp.get 0 O,F.sub (H.bD eB 0 O)⟩,H.a_⟩
 refine ag<|sq<|rg λK k=>ae 2 h O λa h=>s1 h O (cd dZ O a1 H.zin) λa h=>sC h H u O (λfs f27=>dC call24 (iZ f27 (dv _ H.a_).toGW :)) λfs u w X H a h=>?_
 refine sB h u O (dI O) λhb hc u a h=>cN k h [4,5,6,54] O4 λh=>?_
 refine cI h u O (λei u=>?_) λei u=>?_
 exact nomatch u
 refine ag<|rg λK k=>ae 2 h O λa h=>?_
 obtain⟨hf,f30,u⟩:=bo u
 refine st2 h O O O (dC call25 (mj (x0:=y4) (x1:=c8.2) f30 H.zin a1)) ?_
 rintro v_ w ⟨ea,rfl,a8,X⟩ a h
 obtain⟨Z,g,a6,H⟩:=H.aP X
 have F:=F.sub g
 have a1:=a1.sub g
 have f:=g _ _ f
 have a8:=a8.sub a6
 refine ap h H 3 O O O aL aA O O (by obtain⟨_,_,_,e_⟩:=(a8).form;subst e_;rfl) (by simp) aA rfl (hl':=O5) rfl λw H=>?_
 refine cN k h [4] [_] λh=>?_
 cases u
 refine r1 hr h O (aO H 3 bQ aL aA) ⟨_,O,a8.sub (H.bD eB 0 O),⟨_,H.hp.get 0 O,F.sub (H.bD eB 0 O)⟩,H.a_⟩
 obtain⟨gb,ej,u⟩:=bv u
 refine ib (λdz a w=>∃(Z:FZ) (ch:(List (Tk)) × (List (Nd))) (b0:Value) (b6:Value) (ad:List (Cl 17)),loopF gb dz ch=some J/\Fr 60 [(2,(pt p1)),(4,(pt p3)),(5,I y4),(6,b6)] a/\HZ B0 Zi Z [.blk af (aB [b0,I b7,I bb,I bk] 91),.row 0 1 (.slice none 0 0) 0 [],.blk p2 (aB [I x1.k,S x1.s,I x1.a] 109),.blk p3 (aB [I 0,I 0,I 0,I 0,S [],I 0,I 0,I 0,.bool false,.bool false,I 0,I 0,I 0,.bool false,.bool false,S [],.slice none 0 0] 34),.row 34 17 b6 ad.length (ad.flatMap Subtype.val)] w/\bx Z b0 3 fa ch.1/\EL aj Z ad ch.2/\Z p1=some (aB [(pt af)] 89)) KK ⟨_,_,_,_,_,u,h.to,H,Y,G,f⟩ ?_
 rintro dz a w ⟨Z,ch,b0,b6,ad,u,h,H,cp,G,f⟩
 obtain⟨dz,rfl,hg,el,u⟩:=iJ ej u
 refine sq<|rg λK k=>s1 h O (aE O pg (H.zin _ _ f) O) λa h=>?_
 obtain⟨hj,f37,u⟩:=bo u
 refine st2 h O O O (dC call99 (cQ f37 H.zin cp (H.hp.get 0 O) (H.dG 0 O _ O) O O)) ?_
 rintro v_ w ⟨rfl,⟨gf,e1,b1⟩,X⟩ a h
 obtain⟨Z,g,a6,H⟩:=H.b_ 0 rfl e1 X (hl':=O5) rfl
 have G:=G.sub g
 have f:=g _ _ f
 have b1:=b1.sub a6
 have H:HZ B0 _ _ O5 _:=H
 refine sB h u O (dI O) λho hq u a h=>cz k<|cI h u O (λeo u=>?_) λeo u=>?_
 refine ag<|lb ?_
 obtain⟨gg,ep,u⟩:=bv u
 refine dA (λa w=>∃(Z:FZ) (e2:(List (Tk))) (b2:Value),gg e2=some J/\Fr 60 [(2,(pt p1)),(4,(pt p3)),(5,I y4),(6,b6)] a/\HZ B0 Zi Z [.blk af (aB [b2,I b7,I bb,I bk] 91),.row 0 1 (.slice none 0 0) 0 [],.blk p2 (aB [I x1.k,S x1.s,I x1.a] 109),.blk p3 (aB [I 0,I 0,I 0,I 0,S [],I 0,I 0,I 0,.bool false,.bool false,I 0,I 0,I 0,.bool false,.bool false,S [],.slice none 0 0] 34),.row 34 17 b6 ad.length (ad.flatMap Subtype.val)] w/\bx Z b2 3 fa e2/\EL aj Z ad ch.2/\Z p1=some (aB [(pt af)] 89)) ?_ ?_
 rintro a w ⟨Z,e2,b2,u,h,H,ct,G,f⟩
 subst ep
 refine ah<|ae 1 h O λa h=>s1 h O (aE O pg (H.zin _ _ f) O) λa h=>s1 h O (kO [_] O) λa h=>?_
 obtain⟨er,f45,u⟩:=bo u
 refine st2 h O O O (dC call100 (eE (fs1:=#[]) (cp1:=#[(pt p1)]) f45 H.zin ct call199 (zg.one f) (@λ_ _ _ _ _ _ u _ hZ _ b5 cy dn _ eB _ eZ hG gl=>kG eb u hZ gl.get b5 cy dn eB eZ hG) (H.hp.get 0 O) (H.dG 0 O _ O) O O (dv _ H.a_))) ?_
 rintro v_ w ⟨c7,rfl,W,⟨gm,e3,b3⟩,X⟩ a h
 obtain⟨Z,g,a6,H⟩:=H.b_ 0 rfl e3 X (hl':=O5) rfl
 have G:=G.sub g
 have f:=g _ _ f
 have W:=W.sub a6
 have b3:=b3.sub a6
 have H:HZ B0 _ _ O5 _:=H
 refine cZ (enc:=(Subtype.val (p:=λl:List Value=>l.length=17))) ([⟨(nL er.1 c7),O⟩]:List (Cl 17)) h H dZ aL iS O (zl:=[I 0,I 0,I 0,I 0,S [],I 0,I 0,I 0,.bool false,.bool false,I 0,I 0,I 0,.bool false,.bool false,S [],.slice none 0 0]) kR (cb 1 17) [_] aA O O O O O λa dd Z w g X H b4 h=>?_
 have G:=G.sub g
 have W:=W.sub g
 have b3:=b3.sub g
 have f:=g _ _ f
 have b4:bi Z dd aj [er.1]:=⟨_,b4,⟨fw ⟨_,rfl,W⟩,trivial⟩⟩
 obtain⟨h0,u⟩:=ck u
 obtain⟨h2,h3,u⟩:=bv u
 obtain⟨cx,e4,bq⟩:=id b4
 refine cg (enc:=(Subtype.val (p:=λl:List Value=>l.length=17))) (out:=ad) (data:=cx) h H 4 O dZ tW O O O e4 (λc=>c.2) bq.one (Do G.len bq.len h0) O λa eu w H h=>?_
 have G:=EL.append G bq
 rw[<-h3]at G
 have G:EL aj Z (List.append (α:=Cl 17) ad cx) h2:=G
 have H:HZ B0 _ _ O5 _:=H
 refine ae 1 h O λa h=>am ?_
 exact fK (Af ⟨fq el u,h.to,H,b3,G,f⟩)
 refine rg λK k=>ae 1 h O λa h=>s1 h O (cd dZ O (H.uT (i:=4) O G) (ta _)) λa h=>sB h u O (dS O O) λht hv u a h=>cN k h [2,4,5,6,32] O5 λh=>?_
 refine cI h u O (λet u=>?_) λet u=>?_
 refine ah<|s1 h O (aE O pg (H.zin _ _ f) O) λa h=>?_
 obtain⟨hx,f53,u⟩:=bo u
 refine st2 h O O O (dC call136 (im f53 H.zin b1 (H.hp.get 0 O) (H.dG 0 O _ O) O O)) ?_
 rintro v_ w ⟨rfl,⟨h4,e5,bs⟩,X⟩ a h
 obtain⟨Z,g,a6,H⟩:=H.b_ 0 rfl e5 X (hl':=O5) rfl
 have G:=G.sub g
 have f:=g _ _ f
 have bs:=bs.sub a6
 have H:HZ B0 _ _ O5 _:=H
 refine am ?_
 exact iP ⟨u,h.to,H,bs,G,f⟩
 exact ag (iP ⟨u,h.to,H,b1,G,f⟩)
 exact aR (Af ⟨u,h.to,H,b1,G,f⟩)
theorem ly{rec:(List Tk)->Int->Int->Int->Int->Option ((Nd) × (List Tk))}(bq:sx rec){x0:List Tk}{af:Int}{ao:Int}{b0:Int}{x1:Tk}{u:(Nd) × (List Tk)}{w0:World}(f:cf rec x0 af ao b0 x1=some u){Z:FZ}(hZ:Z.inn w0){a8:Nat}{b3:Value}(a1:bx Z b3 3 fa x0) (bs:w0.heap[a8]?=some (aB [b3,I af,I ao,I b0] 91)) (cp:Z a8=none){B0:Bs}(eB:B0=⟨w0,[a8]⟩){Zi:FZ}(eZ:Zi=Z) (hG:jY w0):Calls prog 138 [(pt a8),.agg #[I x1.k,S x1.s,I x1.a]].toArray w0 (bj λv w=>∃u1,v=.agg #[I u.1.k,I u.1.op,I u.1.v.k,I u.1.v.n,S u.1.v.s,I u.1.a.c.s,I u.1.a.c.c,I u.1.a.c.r,.bool u.1.a.ac,.bool u.1.a.ar,I u.1.b.c.s,I u.1.b.c.c,I u.1.b.c.r,.bool u.1.b.ac,.bool u.1.b.ar,S u.1.nm,u1]/\bi (ZB Zi w0.heap.size w) u1 aj u.1.l/\(∃c6,w.heap[a8]?=some (aB [c6,I af,I ao,I b0] 91)/\bx (ZB Zi w0.heap.size w) c6 3 fa u.2)/\ExtB B0 w):=by
 have H:HZ B0 Zi Z [.blk a8 (aB [b3,I af,I ao,I b0] 91)] w0:=by rw[eB,eZ];exact HZ.dH hZ bs cp
 refine tf func138 [0,1] O2 λQ a h hr hn=>?_
 have b4:∀w,ExtB B0 w->jY w:=λw X=>hG.qw a1.form bs rfl eB X
 clear eZ
 have H:HZ B0 _ _ [_] _:=H
 unfold cf at f
 refine rg λK k=>aZ h H O O3 O O λa p1 w X H h=>?_
 have H:HZ B0 _ _ O2 _:=H
 refine zA h H iS aA (λx=>[_,_,x]) λa p2 w X H h=>?_
 refine cz k<|sq<|rg λK k=>ae 1 h O λa h=>s1 h O (ax O) λa h=>s1 h O (ab O ku O jW O O) λa h=>s1 h O (l1 H 0 oN) λa h=>s1 h O (bY nK O (a1.at H.zin)) λa h=>sB h f O (dS O O) λz4 e4 f a h=>ae 1 h O λa h=>ai h O O (gT O) O O (λg=>an O) λa h=>?_
 refine ai h O O (gT O) O O (λg=>ax (eg g O)) λa h=>?_
 refine ai h O O (gT O) O O (λg=>ab (eg g O) ku O jW O O) λa h=>?_
 refine ai h O O (gT O) O O (λg=>aE (eg g O) oN (H.hp.get 0 O) O) λa h=>?_
 obtain⟨c5,f⟩:=ck f
 obtain⟨z6,e6,f⟩:=bv f
 refine fv h O (gT O) nK ee (λg=>(eg g O)) (λg=>rfl) (a1.at H.zin) (λ_=>rfl) z6 (λg=>(c5 g).1) (λg=>(by rw[e6];exact ak (c5 g))) rfl λa ec ct h=>?_
 refine gj h O (gT O) (λg=>(eg g O)) (λg=>(ct g)) j1 O Z3 O O O λa ed cx h=>?_
 refine ai h O O (gT O) O O (λg=>al (eg g O) (cx g) A3 O) λa h=>?_
 obtain⟨z7,e7,f⟩:=bv f
 refine ai h O O (gT O) O O (λg=>vB e7 (aD (eg g O) O)) λa h=>?_
 refine sB h f O (bK O O) λz8 e8 f a h=>ae 1 h O λa h=>ai h O O (gT O) O O (λg=>an O) λa h=>?_
 refine ai h O O (gT O) O O (λg=>ax (eg g O)) λa h=>?_
 refine ai h O O (gT O) O O (λg=>ab (eg g O) ku O jW O O) λa h=>?_
 refine ai h O O (gT O) O O (λg=>aE (eg g O) oN (H.hp.get 0 O) O) λa h=>?_
 obtain⟨c9,f⟩:=ck f
 obtain⟨cy,da,f⟩:=bv f
 refine fv h O (gT O) nK ee (λg=>(eg g O)) (λg=>rfl) (a1.at H.zin) (λ_=>rfl) cy (λg=>(c9 g).1) (λg=>(by rw[da];exact ak (c9 g))) rfl λa ef dd h=>?_
 refine gj h O (gT O) (λg=>(eg g O)) (λg=>(dd g)) j1 O Z9 O O O λa ei iT h=>?_
 refine ai h O O (gT O) O O (λg=>al (eg g O) (iT g) A9 O) λa h=>?_
 obtain⟨ej,dj,f⟩:=bv f
 refine ai h O O (gT O) O O (λg=>vB dj (aH (eg g O) O)) λa h=>?_
 refine sB h f O (bK O O) λel eo f a h=>cN k h [0,3,4,32] O4 λh=>?_
 refine cI h f O (λc7 f=>?_) λc7 f=>?_
 refine rg λK k=>ae 1 h O λa h=>s1 h O (lA H 1 isAgg109 ee O3) λa h=>?_
 obtain⟨ep,f14,f⟩:=bo f
 refine st2 h O O O (dC call182 (lR bq f14 H.zin a1 (H.hp.get 0 O) (H.dG 0 O _ O) O O (b4 _ H.a_))) ?_
 rintro v_ w ⟨b7,rfl,E,⟨dn,b5,a6⟩,X⟩ a h
 obtain⟨Z,ad,Y,H⟩:=H.b_ 0 rfl b5 X (hl':=O3) rfl
 have E:=E.sub Y
 have a6:=a6.sub Y
 have H:HZ B0 _ _ O3 _:=H
 refine ap h H 2 O O O aL aA O O (by obtain⟨_,_,_,e_⟩:=(E).form;subst e_;rfl) (by simp) aA rfl (hl':=O3) rfl λw H=>?_
 refine cN k h [4] [_] λh=>?_
 cases f
 refine r1 hr h O (aO H 2 bQ aL aA) ⟨_,O,E.sub (H.bD eB 0 O),⟨_,H.hp.get 0 O,a6.sub (H.bD eB 0 O)⟩,H.a_⟩
 refine ag<|sq<|D4 11 [9] h ?_
 refine F1 O (λw X=>ab O j1 O Z9 O O) ?_
 refine F1 O (λw X=>have H:=H.ext X;l1 H 1 A9) ?_
 refine bN 1 O ?_
 refine F1 O (λw X=>ax O) ?_
 refine F1 O (λw X=>ab O ku O Z3 O O) ?_
 refine F1 O (λw X=>have H:=H.ext X;l1 H 0 A3) ?_
 refine fC f O (λdv f17 w X=>have H:=H.ext X;dC call133 (mx f17 (b4 _ H.a_) :)) λdv f=>?_
 refine bN 3 O ?_
 refine gu AK O5 O O ?_
 refine wT ?_
 intro a w X hR hA
 obtain⟨_,⟨er,rfl,dz⟩,h⟩:=hR.out [0,3,4,5,44,45]
 have h:Fr 98 [(45,_),(44,_),(5,_),(4,_),(3,_),(0,_)] a:=h
 have e1:=hA.zt h (s:=5) rfl rfl
 have H:=H.tG X dz e1
 have H:HZ B0 _ _ O4 _:=H
 refine tS h H 3 iR O5 O5 O4 λw H=>?_
 refine yp 1 h O λa h=>?_
 refine tE ?_
 refine rg λK k=>ae 1 h O λa h=>cz k<|cI h f O (λc8 f=>?_) λc8 f=>?_
 refine rg λK k=>ae 2 h O λa h=>s1 h O (ax O) λa h=>s1 h O (ab O ku O jW O O) λa h=>s1 h O (l1 H 0 oN) λa h=>?_
 obtain⟨e2,f⟩:=ck f
 obtain⟨et,e3,f⟩:=bv f
 refine jq (enc:=fa) (sz:=3) (λ_=>rfl) h nK ee O O a1 e2 O λa b1 W h=>?_
 rw[<-e3]at W
 refine s1 h O (ax O) λa h=>s1 h O (ab O ku O jW O O) λa h=>ap h H 0 O O O jW [b1] (by rw[W.cells]) rfl (by obtain⟨_,_,_,e_⟩:=(W).form;subst e_;rfl) (by simp) O4 rfl (hl':=O4) rfl λw H=>?_
 refine cN k h [0,4,5] O3 λh=>?_
 refine rg λK k=>ae 1 h O λa h=>s1 h O (lA H 3 mP iR O5) λa h=>?_
 obtain⟨eu,f23,f⟩:=bo f
 refine st2 h O O O (dC call183 (lz f23 H.zin W (H.hp.get 0 O) (H.dG 0 O _ O) O O (b4 _ H.a_))) ?_
 rintro v_ w ⟨bb,rfl,F,⟨e5,b6,a7⟩,X⟩ a h
 obtain⟨Z,ad,Y,H⟩:=H.b_ 0 rfl b6 X (hl':=O4) rfl
 have F:=F.sub Y
 have a7:=a7.sub Y
 have H:HZ B0 _ _ O4 _:=H
 refine ap h H 2 O O O aL aA O O (by obtain⟨_,_,_,e_⟩:=(F).form;subst e_;rfl) (by simp) aA rfl (hl':=O4) rfl λw H=>?_
 refine cN k h [4] [_] λh=>?_
 cases f
 refine r1 hr h O (aO H 2 bQ aL aA) ⟨_,O,F.sub (H.bD eB 0 O),⟨_,H.hp.get 0 O,a7.sub (H.bD eB 0 O)⟩,H.a_⟩
 refine ag<|cO h [0,3,4] O3 λh=>?_
 refine sb ?_
 refine rg λK k=>s1 h O (ab O j1 O Z9 O O) λa h=>s1 h O (l1 H 1 A9) λa h=>sB h f O (aH O O) λew ey f a h=>ae 1 h O λa h=>ai h O O (gF O) O O (λg=>ab O j1 O Z9 O O) λa h=>?_
 refine ai h O O (gF O) O O (λg=>aE (eg g O) A9 (H.hp.get 1 O) O) λa h=>?_
 obtain⟨ez,e9,f⟩:=bv f
 refine ai h O O (gF O) O O (λg=>vB e9 (aH (eg g O) O)) λa h=>?_
 refine sB h f O (ca O O) λeF eJ f a h=>ae 1 h O λa h=>cN k h [0,3,4,58] O4 λh=>?_
 refine cI h f O (λcc f=>?_) λcc f=>?_
 refine rg λK k=>ae 2 h O λa h=>s1 h O (ax O) λa h=>s1 h O (ab O ku O jW O O) λa h=>s1 h O (l1 H 0 oN) λa h=>?_
 obtain⟨ea,f⟩:=ck f
 obtain⟨ff,eb,f⟩:=bv f
 refine jq (enc:=fa) (sz:=3) (λ_=>rfl) h nK ee O O a1 ea O λa b2 G h=>?_
 rw[<-eb]at G
 refine s1 h O (ax O) λa h=>s1 h O (ab O ku O jW O O) λa h=>ap h H 0 O O O jW [b2] (by rw[G.cells]) rfl (by obtain⟨_,_,_,e_⟩:=(G).form;subst e_;rfl) (by simp) O4 rfl (hl':=O4) rfl λw H=>?_
 refine cN k h [3,4] O2 λh=>?_
 refine rg λK k=>s1 h O (ab O j1 O Z9 O O) λa h=>s1 h O (l1 H 1 A9) λa h=>sB h f O (aH O O) λfs gb f a h=>sC h H f O (λch f34=>dC call17 (bh f34 :)) λch f w X H a h=>?_
 obtain⟨gf,f35,f⟩:=bo f
 refine st2 h O O O (dC call15 (aX (x0:=ch) f35)) ?_
 rintro v_ w ⟨bk,rfl,J,X⟩ a h
 obtain⟨Z,ad,Y,H⟩:=H.aP X
 have G:=G.sub ad
 have J:=J.sub (ZB.empty.trans Y)
 refine ap h H 2 O O O aL aA O O (by obtain⟨_,_,_,e_⟩:=(J).form;subst e_;rfl) (by simp) aA rfl (hl':=O4) rfl λw H=>?_
 refine cN k h [4] [_] λh=>?_
 cases f
 refine r1 hr h O (aO H 2 bQ aL aA) ⟨_,O,J.sub (H.bD eB 0 O),⟨_,H.hp.get 0 O,G.sub (H.bD eB 0 O)⟩,H.a_⟩
 exact nomatch f
theorem kf{rec:(List Tk)->Int->Int->Int->Int->Option ((Nd) × (List Tk))}(cp:sx rec){x0:List Tk}{b5:Int}{b6:Int}{b7:Int}{G:(Nd) × (List Tk)}{w0:World}(f:parse_parser_primary rec x0 b5 b6 b7=some G){Z:FZ}(hZ:Z.inn w0){b1:Nat}{ct:Value}(c6:bx Z ct 3 fa x0) (c7:w0.heap[b1]?=some (aB [ct,I b5,I b6,I b7] 91)) (cx:Z b1=none){B0:Bs}(eB:B0=⟨w0,[b1]⟩){Zi:FZ}(eZ:Zi=Z) (hG:jY w0):Calls prog 101 [(pt b1)].toArray w0 (bj λv w=>∃u1,v=.agg #[I G.1.k,I G.1.op,I G.1.v.k,I G.1.v.n,S G.1.v.s,I G.1.a.c.s,I G.1.a.c.c,I G.1.a.c.r,.bool G.1.a.ac,.bool G.1.a.ar,I G.1.b.c.s,I G.1.b.c.c,I G.1.b.c.r,.bool G.1.b.ac,.bool G.1.b.ar,S G.1.nm,u1]/\bi (ZB Zi w0.heap.size w) u1 aj G.1.l/\(∃e6,w.heap[b1]?=some (aB [e6,I b5,I b6,I b7] 91)/\bx (ZB Zi w0.heap.size w) e6 3 fa G.2)/\ExtB B0 w):=by
 have H:HZ B0 Zi Z [.blk b1 (aB [ct,I b5,I b6,I b7] 91)] w0:=by rw[eB,eZ];exact HZ.dH hZ c7 cx
 refine tf func101 [0] [_] λQ a h hr hn=>?_
 have cy:∀w,ExtB B0 w->jY w:=λw X=>hG.qw c6.form c7 rfl eB X
 clear eZ
 have H:HZ B0 _ _ [_] _:=H
 unfold parse_parser_primary at f
 refine rg λK k=>aZ h H O [_] O O λa p1 w X H h=>?_
 have H:HZ B0 _ _ O2 _:=H
 refine zA h H iS aA (λx=>[_,_,x]) λa p2 w X H h=>?_
 refine cz k<|sq<|rg λK k=>s1 h O (l1 H 1 pg) λa h=>?_
 obtain⟨y4,f4,f⟩:=bo f
 refine st2 h O O O (dC call99 (cQ f4 H.zin c6 (H.hp.get 0 O) (H.dG 0 O _ O) O O)) ?_
 rintro v_ w ⟨rfl,⟨hf,e7,b0⟩,X⟩ a h
 obtain⟨Z,g,u,H⟩:=H.b_ 0 rfl e7 X (hl':=O3) rfl
 have b0:=b0.sub u
 have H:HZ B0 _ _ O3 _:=H
 refine cz k<|cI h f O (λez f=>?_) λez f=>?_
 refine rg λK k=>s1 h O (l1 H 1 pg) λa h=>?_
 obtain⟨Z,g,H,ao⟩:=H.i8 1 rfl rfl
 have b0:=b0.sub g
 have H:HZ B0 _ _ O3 _:=H
 refine s1 h O (kO [_] O) λa h=>?_
 obtain⟨y8,f8,f⟩:=bo f
 refine st2 h O O O (dC call100 (eE (fs1:=#[]) (cp1:=#[(pt p1)]) f8 H.zin b0 call135 (zg.one ao) (@λ_ _ _ _ _ _ f _ hZ _ c6 c7 cx _ eB _ eZ hG eF=>jE cp f hZ eF.get c6 c7 cx eB eZ hG) (H.hp.get 0 O) (H.dG 0 O _ O) O O (cy _ H.a_))) ?_
 rintro v_ w ⟨e8,rfl,F,⟨hg,e9,bs⟩,X⟩ a h
 obtain⟨Z,g,u,H⟩:=H.b_ 0 rfl e9 X (hl':=O3) rfl
 have ao:=g _ _ ao
 have F:=F.sub u
 have bs:=bs.sub u
 have H:HZ B0 _ _ O3 _:=H
 refine zA h H iS aA (λx=>[_,_,_,x]) λa uM w X H h=>?_
 refine ap h H 3 O O O aL aA O O (by obtain⟨_,_,_,e_⟩:=(F).form;subst e_;rfl) (by simp) aA rfl (hl':=O4) rfl λw H=>?_
 refine cN k h [1,2,3] O3 λh=>?_
 refine rg λK k=>s1 h O (aE O pg (H.zin _ _ ao) O) λa h=>?_
 obtain⟨hj,f11,f⟩:=bo f
 refine st2 h O O O (dC call136 (im f11 H.zin bs (H.hp.get 0 O) (H.dG 0 O _ O) O O)) ?_
 rintro v_ w ⟨rfl,⟨eJ,da,bb⟩,X⟩ a h
 obtain⟨Z,g,u,H⟩:=H.b_ 0 rfl da X (hl':=O4) rfl
 have F:=F.sub g
 have ao:=g _ _ ao
 have bb:=bb.sub u
 have H:HZ B0 _ _ O4 _:=H
 refine cz k<|rg λK k=>s1 h O (lA H 3 bQ aL aA) λa h=>ap h H 2 O O O aL aA O O (by obtain⟨_,_,_,e_⟩:=(F).form;subst e_;rfl) (by simp) aA rfl (hl':=O4) rfl λw H=>?_
 refine cN k h [2] [_] λh=>?_
 cases f
 refine r1 hr h O (aO H 2 bQ aL aA) ⟨_,O,F.sub (H.bD eB 0 O),⟨_,H.hp.get 0 O,bb.sub (H.bD eB 0 O)⟩,H.a_⟩
 refine ag ?_
 obtain⟨ff,ea,f⟩:=bv f
 refine dA (λa w=>∃(Z:FZ) (dd:(List (Tk))) (b2:Value),ff dd=some G/\Fr 108 [(1,(pt p1)),(2,(pt p2))] a/\HZ B0 Zi Z [.blk b1 (aB [b2,I b5,I b6,I b7] 91),.blk p1 (aB [(pt b1)] 89),.blk p2 (aB [I 0,I 0,I 0,I 0,S [],I 0,I 0,I 0,.bool false,.bool false,I 0,I 0,I 0,.bool false,.bool false,S [],.slice none 0 0] 34)] w/\bx Z b2 3 fa dd) ?_ ?_
 rintro a w ⟨Z,dd,b2,f,h,H,E⟩
 subst ea
 refine rg λK k=>s1 h O (l1 H 1 pg) λa h=>s1 h O (ax O) λa h=>s1 h O (ab O ku O jW O O) λa h=>s1 h O (l1 H 0 oN) λa h=>?_
 obtain⟨eb,f⟩:=ck f
 obtain⟨bk,fs,f⟩:=bv f
 refine bB h nK ee O O (E.at H.zin) (λ_=>rfl) bk eb.1 (by rw[fs];exact ak eb) rfl λa ho dj h=>?_
 refine s1 h O (ay O3 O dj isAgg109 ee O O) λa h=>zA h H zeroValue109 O3 (λx=>[_,_,_,x]) λa dn w X H h=>?_
 have dj:=At.ext dj X
 refine zS h H 3 ee O3 O3 O4 λw H=>?_
 refine cN k h [1,2,4] O3 λh=>?_
 refine sq<|rg λK k=>s1 h O (ab O j1 O Z3 O O) λa h=>s1 h O (l1 H 3 A3) λa h=>cz k<|lb<|rg λK k=>sB h f O (aD O O) λhq ht f a h=>ae 1 h O λa h=>cz k<|cI h f O (λec f=>?_) λec f=>?_
 refine rg λK k=>s1 h O (ab O j1 O Z9 O O) λa h=>s1 h O (l1 H 3 A9) λa h=>sC h H f O (λed f23=>dC call110 (nC f23 :)) λed f w X H a h=>?_
 refine ae 5 h O λa h=>cN k h [1,2,5,6] O4 λh=>?_
 obtain⟨gb,ef,f⟩:=bv f
 refine dA (λa w=>∃(Z:FZ) (dv:(List (Tk))) (b3:Value),gb dv=some G/\Fr 108 [(1,(pt p1)),(2,(pt p2)),(5,I ed.1)] a/\HZ B0 Zi Z [.blk b1 (aB [b3,I b5,I b6,I b7] 91),.blk p1 (aB [(pt b1)] 89),.blk p2 (aB [I 0,I 0,I 0,I 0,S [],I 0,I 0,I 0,.bool false,.bool false,I 0,I 0,I 0,.bool false,.bool false,S [],.slice none 0 0] 34),.blk dn (aB [I bk.k,S bk.s,I bk.a] 109)] w/\bx Z b3 3 fa dv) ?_ ?_
 rintro a w ⟨Z,dv,b3,f,h,H,a7⟩
 subst ef
 refine nV 8 h λK k=>?_
 refine F1 O (λw X=>have H:=H.ext X;l1 H 1 pg) ?_
 refine F1 O (λw X=>have H:=H.ext X;l1 H 1 pg) ?_
 refine F1 O (λw X=>ax O) ?_
 refine F1 O (λw X=>ab O ku O jW O O) ?_
 refine F1 O (λw X=>have H:=H.ext X;l1 H 0 oN) ?_
 obtain⟨gf,f⟩:=ck f
 obtain⟨gg,gl,f⟩:=bv f
 refine aT [59] O O O O false (.rel (λw' v'=>bx (ZB Z w.heap.size w') v' 3 fa gg)) jG (λw X=>?_) ?_
 skip
 exact have Hs:=ZB.of H.zin X;have H:=H.ext X;dt.jw (nw (enc:=fa) (sz:=3) (λ_=>rfl) nK ee O O a7 gf) (λv w' hr=>by obtain⟨hr,rfl⟩:=hr;exact⟨by rw[gl];exact hr.sub Hs,Ext.refl _⟩)
 refine F1 O (λw X=>ax O) ?_
 refine F1 O (λw X=>ab O ku O jW O O) ?_
 refine wT ?_
 intro a w X hR hA
 obtain⟨c8,J,h⟩:=hR.out [2,5,60,62]
 have h:Fr 108 [(62,_),(60,_),(5,_),(2,_)] a:=h
 obtain⟨Z,g,u,H⟩:=H.aP X
 have a7:=a7.sub g
 have J:=J.sub u
 refine ap h H 0 O O O jW [c8] (by rw[J.cells]) rfl (by obtain⟨_,_,_,e_⟩:=(J).form;subst e_;rfl) (by simp) O4 rfl (hl':=O4) rfl λw H=>?_
 refine cz k<|rg λK k=>ae 1 h O λa h=>sC h H f O (λei f30=>dC call14 (bH f30 :)) λei f w X H a h=>?_
 obtain⟨hv,f31,f⟩:=bo f
 refine st2 h O O O (dC call15 (aX (x0:=ei) f31)) ?_
 rintro v_ w ⟨e4,rfl,ad,X⟩ a h
 obtain⟨Z,g,u,H⟩:=H.aP X
 have a7:=a7.sub g
 have J:=J.sub g
 have ad:=ad.sub (ZB.empty.trans u)
 refine ap h H 2 O O O aL aA O O (by obtain⟨_,_,_,e_⟩:=(ad).form;subst e_;rfl) (by simp) aA rfl (hl':=O4) rfl λw H=>?_
 refine cN k h [2] [_] λh=>?_
 cases f
 refine r1 hr h O (aO H 2 bQ aL aA) ⟨_,O,ad.sub (H.bD eB 0 O),⟨_,H.hp.get 0 O,J.sub (H.bD eB 0 O)⟩,H.a_⟩
 refine rg λK k=>ae 1 h O λa h=>sB h f O (dI O) λhx hy f a h=>cz k<|cI h f O (λej f=>?_) λej f=>?_
 exact nomatch f
 exact ag (iP ⟨f,h.to,H,E⟩)
 refine rg λK k=>sB h f O (aD O O) λhB hD f a h=>ae 1 h O λa h=>cN k h [1,2,4,42,66] O5 λh=>?_
 refine cI h f O (λel f=>?_) λel f=>?_
 obtain⟨gm,eo,f⟩:=bv f
 refine dA (λa w=>∃(Z:FZ) (dz:(List (Tk))) (b4:Value),gm dz=some G/\Fr 108 [(1,(pt p1)),(2,(pt p2)),(4,(pt dn))] a/\HZ B0 Zi Z [.blk b1 (aB [b4,I b5,I b6,I b7] 91),.blk p1 (aB [(pt b1)] 89),.blk p2 (aB [I 0,I 0,I 0,I 0,S [],I 0,I 0,I 0,.bool false,.bool false,I 0,I 0,I 0,.bool false,.bool false,S [],.slice none 0 0] 34),.blk dn (aB [I bk.k,S bk.s,I bk.a] 109)] w/\bx Z b4 3 fa dz) ?_ ?_
 rintro a w ⟨Z,dz,b4,f,h,H,a8⟩
 subst eo
 refine nV 8 h λK k=>?_
 refine F1 O (λw X=>have H:=H.ext X;l1 H 1 pg) ?_
 refine F1 O (λw X=>have H:=H.ext X;l1 H 1 pg) ?_
 refine F1 O (λw X=>ax O) ?_
 refine F1 O (λw X=>ab O ku O jW O O) ?_
 refine F1 O (λw X=>have H:=H.ext X;l1 H 0 oN) ?_
 obtain⟨h0,f⟩:=ck f
 obtain⟨h2,h3,f⟩:=bv f
 refine aT [78] O O O O false (.rel (λw' v'=>bx (ZB Z w.heap.size w') v' 3 fa h2)) jG (λw X=>?_) ?_
 skip
 exact have Hs:=ZB.of H.zin X;have H:=H.ext X;dt.jw (nw (enc:=fa) (sz:=3) (λ_=>rfl) nK ee O O a8 h0) (λv w' hr=>by obtain⟨hr,rfl⟩:=hr;exact⟨by rw[h3];exact hr.sub Hs,Ext.refl _⟩)
 refine F1 O (λw X=>ax O) ?_
 refine F1 O (λw X=>ab O ku O jW O O) ?_
 refine wT ?_
 intro a w X hR hA
 obtain⟨cc,W,h⟩:=hR.out [2,4,79,81]
 have h:Fr 108 [(81,_),(79,_),(4,_),(2,_)] a:=h
 obtain⟨Z,g,u,H⟩:=H.aP X
 have a8:=a8.sub g
 have W:=W.sub u
 refine ap h H 0 O O O jW [cc] (by rw[W.cells]) rfl (by obtain⟨_,_,_,e_⟩:=(W).form;subst e_;rfl) (by simp) O4 rfl (hl':=O4) rfl λw H=>?_
 refine cz k<|rg λK k=>s1 h O (ab O j1 O Z9 O O) λa h=>s1 h O (l1 H 3 A9) λa h=>sC h H f O (λep f43=>dC call16 (bI f43 :)) λep f w X H a h=>?_
 obtain⟨hE,f44,f⟩:=bo f
 refine st2 h O O O (dC call15 (aX (x0:=ep) f44)) ?_
 rintro v_ w ⟨e5,rfl,af,X⟩ a h
 obtain⟨Z,g,u,H⟩:=H.aP X
 have a8:=a8.sub g
 have W:=W.sub g
 have af:=af.sub (ZB.empty.trans u)
 refine ap h H 2 O O O aL aA O O (by obtain⟨_,_,_,e_⟩:=(af).form;subst e_;rfl) (by simp) aA rfl (hl':=O4) rfl λw H=>?_
 refine cN k h [2] [_] λh=>?_
 cases f
 refine r1 hr h O (aO H 2 bQ aL aA) ⟨_,O,af.sub (H.bD eB 0 O),⟨_,H.hp.get 0 O,W.sub (H.bD eB 0 O)⟩,H.a_⟩
 refine rg λK k=>s1 h O (ab O j1 O Z9 O O) λa h=>s1 h O (l1 H 3 A9) λa h=>s1 h O (dE U9 O) λa h=>sB h f O (dS O O) λhF hI f a h=>cN k h [1,2,4,71] O4 λh=>?_
 refine cI h f O (λer f=>?_) λer f=>?_
 exact nomatch f
 exact ag (iP ⟨f,h.to,H,E⟩)
 refine rg λK k=>sB h f O (aD O O) λhJ hK f a h=>ae 1 h O λa h=>cz k<|cI h f O (λet f=>?_) λet f=>?_
 refine rg λK k=>s1 h O (ab O j1 O Z9 O O) λa h=>s1 h O (l1 H 3 A9) λa h=>sC h H f O (λh4 f50=>dC call137 (om f50 (cy _ H.a_) :)) λh4 f w X H a h=>?_
 refine ae 5 h O λa h=>cN k h [1,2,7] O3 λh=>?_
 refine nV 8 h λK k=>?_
 refine F1 O (λw X=>have H:=H.ext X;l1 H 1 pg) ?_
 refine F1 O (λw X=>have H:=H.ext X;l1 H 1 pg) ?_
 refine F1 O (λw X=>ax O) ?_
 refine F1 O (λw X=>ab O ku O jW O O) ?_
 refine F1 O (λw X=>have H:=H.ext X;l1 H 0 oN) ?_
 obtain⟨h5,f⟩:=ck f
 obtain⟨h6,h7,f⟩:=bv f
 refine aT [98] O O O O false (.rel (λw' v'=>bx (ZB Z w.heap.size w') v' 3 fa h6)) jG (λw X=>?_) ?_
 skip
 exact have Hs:=ZB.of H.zin X;have H:=H.ext X;dt.jw (nw (enc:=fa) (sz:=3) (λ_=>rfl) nK ee O O E h5) (λv w' hr=>by obtain⟨hr,rfl⟩:=hr;exact⟨by rw[h7];exact hr.sub Hs,Ext.refl _⟩)
 refine F1 O (λw X=>ax O) ?_
 refine F1 O (λw X=>ab O ku O jW O O) ?_
 refine wT ?_
 intro a w X hR hA
 obtain⟨ch,Y,h⟩:=hR.out [2,7,99,101]
 have h:Fr 108 [(101,_),(99,_),(7,_),(2,_)] a:=h
 obtain⟨Z,g,u,H⟩:=H.aP X
 have E:=E.sub g
 have Y:=Y.sub u
 refine ap h H 0 O O O jW [ch] (by rw[Y.cells]) rfl (by obtain⟨_,_,_,e_⟩:=(Y).form;subst e_;rfl) (by simp) O4 rfl (hl':=O4) rfl λw H=>?_
 refine cz k<|rg λK k=>ae 1 h O λa h=>sC h H f O (λeu f54=>dC call18 (az f54 :)) λeu f w X H a h=>?_
 obtain⟨hL,f55,f⟩:=bo f
 refine st2 h O O O (dC call15 (aX (x0:=eu) f55)) ?_
 rintro v_ w ⟨e1,rfl,a1,X⟩ a h
 obtain⟨Z,g,u,H⟩:=H.aP X
 have E:=E.sub g
 have Y:=Y.sub g
 have a1:=a1.sub (ZB.empty.trans u)
 refine ap h H 2 O O O aL aA O O (by obtain⟨_,_,_,e_⟩:=(a1).form;subst e_;rfl) (by simp) aA rfl (hl':=O4) rfl λw H=>?_
 refine cN k h [2] [_] λh=>?_
 cases f
 refine r1 hr h O (aO H 2 bQ aL aA) ⟨_,O,a1.sub (H.bD eB 0 O),⟨_,H.hp.get 0 O,Y.sub (H.bD eB 0 O)⟩,H.a_⟩
 refine ag<|cO h [1,2,4] O3 λh=>?_
 refine rg λK k=>s1 h O (l1 H 1 pg) λa h=>s1 h O (lA H 3 isAgg109 ee O3) λa h=>?_
 obtain⟨hN,f57,f⟩:=bo f
 refine st2 h O O O (dC call138 (ly cp f57 H.zin E (H.hp.get 0 O) (H.dG 0 O _ O) O O (cy _ H.a_))) ?_
 rintro v_ w ⟨e2,rfl,a6,⟨h8,e3,bq⟩,X⟩ a h
 obtain⟨Z,g,u,H⟩:=H.b_ 0 rfl e3 X (hl':=O4) rfl
 have a6:=a6.sub u
 have bq:=bq.sub u
 have H:HZ B0 _ _ O4 _:=H
 refine ap h H 2 O O O aL aA O O (by obtain⟨_,_,_,e_⟩:=(a6).form;subst e_;rfl) (by simp) aA rfl (hl':=O4) rfl λw H=>?_
 refine cN k h [2] [_] λh=>?_
 cases f
 refine r1 hr h O (aO H 2 bQ aL aA) ⟨_,O,a6.sub (H.bD eB 0 O),⟨_,H.hp.get 0 O,bq.sub (H.bD eB 0 O)⟩,H.a_⟩
 refine rg λK k=>s1 h O (l1 H 1 pg) λa h=>s1 h O (ax O) λa h=>s1 h O (ab O ku O jW O O) λa h=>s1 h O (l1 H 0 oN) λa h=>s1 h O (bY nK O (b0.at H.zin)) λa h=>sB h f O (aD O O) λhP hQ f a h=>ae 1 h O λa h=>ai h O O (gF O) O O (λe0=>l1 H 1 pg) λa h=>?_
 refine ai h O O (gF O) O O (λe0=>ax (eg e0 O)) λa h=>?_
 refine ai h O O (gF O) O O (λe0=>ab (eg e0 O) ku O jW O O) λa h=>?_
 refine ai h O O (gF O) O O (λe0=>aE (eg e0 O) oN (H.hp.get 0 O) O) λa h=>?_
 obtain⟨ew,f⟩:=ck f
 obtain⟨h9,ha,f⟩:=bv f
 refine fv h O (gF O) nK ee (λe0=>(eg e0 O)) (λe0=>rfl) (b0.at H.zin) (λ_=>rfl) h9 (λe0=>(ew e0).1) (λe0=>(by rw[ha];exact ak (ew e0))) rfl λa hT hb h=>?_
 refine gj h O (gF O) (λe0=>(eg e0 O)) (λe0=>(hb e0)) j1 O Z3 O O O λa hU iT h=>?_
 refine ai h O O (gF O) O O (λe0=>al (eg e0 O) (iT e0) A3 O) λa h=>?_
 obtain⟨hV,hc,f⟩:=bv f
 refine ai h O O (gF O) O O (λe0=>vB hc (aD (eg e0 O) O)) λa h=>?_
 refine sB h f O (ca O O) λhW hX f a h=>cN k h [1,2,32] O3 λh=>?_
 refine cI h f O (λey f=>?_) λey f=>?_
 exact nomatch f
 exact ag (iP ⟨f,h.to,H,b0⟩)
end Go.Proofs.YtnllbjchcfpmpaaGreatDoor
