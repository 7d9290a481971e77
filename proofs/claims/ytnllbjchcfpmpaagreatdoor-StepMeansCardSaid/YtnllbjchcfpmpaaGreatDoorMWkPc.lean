/- Joined texts. -/
import Derived.Test.YtnllbjchcfpmpaaGreatDoorMWkPb
set_option linter.all false
namespace Go.Proofs.YtnllbjchcfpmpaaGreatDoor
open Go.Stp Go.RowKit Go.ValP Go.Sp _root_.Go.Proofs.Tryz
set_option maxRecDepth 100000
theorem mL{x0:List Tk}{a7 a8 ad x1:Int}{b1:(Int) × (List Tk)}{w0:World}(f:bV x0 a7 a8 ad x1=some b1){Z:FZ}(hZ:Z.inn w0){G:Nat}{b6:Value}(a6:bx Z b6 3 fa x0) (bs:w0.heap[G]?=some (aB [b6,I a7,I a8,I ad] 91)) (dz:Z G=none){B0:Bs}(eB:B0=⟨w0,[G]⟩){Zi:FZ}(eZ:Zi=Z) (hG:jY w0):Calls prog 59 [(pt G),I x1].toArray w0 (bj λv w=>v=I b1.1/\(∃c6,w.heap[G]?=some (aB [c6,I a7,I a8,I ad] 91)/\bx (ZB Zi w0.heap.size w) c6 3 fa b1.2)/\ExtB B0 w):=by
 have H:HZ B0 Zi Z [.blk G (aB [b6,I a7,I a8,I ad] 91)] w0:=by rw[eB,eZ];exact HZ.dH hZ bs dz
 refine tf func59 [0,1] O2 λQ a h hr hn=>?_
 have b7:∀w,ExtB B0 w->jY w:=λw X=>hG.qw a6.form bs rfl eB X
 clear eZ
 have H:HZ B0 _ _ [_] _:=H
 unfold bV at f
 refine rg λK k=>ae 1 h O λa h=>cz k<|sq<|rg λK k=>ae 1 h O λa h=>s1 h O (ax O) λa h=>s1 h O (ab O ku O jW O O) λa h=>s1 h O (l1 H 0 oN) λa h=>s1 h O (bY nK O (a6.at H.zin)) λa h=>sB h f O (aD O O) λz2 e2 f a h=>ae 1 h O λa h=>ai h O O (gF O) O O (λe0=>an O) λa h=>?_
 refine ai h O O (gF O) O O (λe0=>ax (eg e0 O)) λa h=>?_
 refine ai h O O (gF O) O O (λe0=>ab (eg e0 O) ku O jW O O) λa h=>?_
 refine ai h O O (gF O) O O (λe0=>aE (eg e0 O) oN (H.hp.get 0 O) O) λa h=>?_
 obtain⟨c3,f⟩:=ck f
 obtain⟨z4,e4,f⟩:=bv f
 refine fv h O (gF O) nK ee (λe0=>(eg e0 O)) (λe0=>rfl) (a6.at H.zin) (λ_=>rfl) z4 (λe0=>(c3 e0).1) (λe0=>(by rw[e4];exact ak (c3 e0))) rfl λa ff e1 h=>?_
 refine gj h O (gF O) (λe0=>(eg e0 O)) (λe0=>(e1 e0)) j1 O Z3 O O O λa fs e3 h=>?_
 refine ai h O O (gF O) O O (λe0=>al (eg e0 O) (e3 e0) A3 O) λa h=>?_
 obtain⟨z5,e5,f⟩:=bv f
 refine ai h O O (gF O) O O (λe0=>vB e5 (fN (eg e0 O) O)) λa h=>?_
 refine sB h f O (ca O O) λz6 e6 f a h=>cN k h [0,1,25] O3 λh=>?_
 refine cI h f O (λe7 f=>?_) λe7 f=>?_
 refine rg λK k=>ae 1 h O λa h=>cz k ?_
 cases f
 refine r1 hr h O O ⟨O,⟨_,H.hp.get 0 O,a6.sub (H.bD eB 0 O)⟩,H.a_⟩
 refine ag<|rg λK k=>ae 1 h O λa h=>s1 h O (ax O) λa h=>s1 h O (ab O ku O jW O O) λa h=>s1 h O (l1 H 0 oN) λa h=>?_
 obtain⟨c8,f⟩:=ck f
 obtain⟨z9,e9,f⟩:=bv f
 refine bB h nK ee O O (a6.at H.zin) (λ_=>rfl) z9 c8.1 (by rw[e9];exact ak c8) rfl λa gb e8 h=>?_
 refine kK h O e8 j1 O Z9 O O O λa gf mP h=>?_
 refine s1 h O (al O mP A9 O) λa h=>ae 1 h O λa h=>cN k h [0,1,5] O3 λh=>?_
 obtain⟨ea,c7,f⟩:=bv f
 refine dA (λa w=>∃(Z:FZ) (bb:(List (Tk))) (J:Value),ea bb=some b1/\Fr 67 [] a/\HZ B0 Zi Z [.blk G (aB [J,I a7,I a8,I ad] 91)] w/\bx Z J 3 fa bb) ?_ ?_
 rintro a w ⟨Z,bb,J,f,h,H,b2⟩
 subst c7
 refine rg λK k=>ae 1 h O λa h=>cz k ?_
 cases f
 refine r1 hr h O O ⟨O,⟨_,H.hp.get 0 O,b2.sub (H.bD eB 0 O)⟩,H.a_⟩
 refine rg λK k=>ae 1 h O λa h=>?_
 obtain⟨cc,f⟩:=ck f
 refine s1 (V:=.pointer (some ⟨1,Int.toNat x1,none⟩)) h O (xi underlying160 Z9 O O cc) λa h=>?_
 obtain⟨eF,eJ,ch⟩:=(b7 _ H.a_).lev
 refine sS h f O (vi O A9 ch O cc) λgg gl f a h=>?_
 obtain⟨eb,f⟩:=ck f
 obtain⟨b3,ec,f⟩:=bv f
 refine cW (data:=b3) h H O O O ((by rw[ec];exact dC call42 (eG eb (b7 _ H.a_)))) λF Z w ao X H g a h=>?_
 have a6:=a6.sub ao
 refine s1 h O (bY lg O (g.at H.zin)) λa h=>ae 1 h O λa h=>cN k h [0,5,36,37,38] O5 λh=>?_
 refine lb ?_
 obtain⟨ed,cp,f⟩:=bv f
 refine ib (λaf a w=>∃(Z:FZ) (b4:Int × (List (Tk))) (W:Value),loopF ed af b4=some b1/\Fr 67 [(0,(pt G)),(5,S z9.s),(36,F),(37,I (b3.length:Int)),(38,I b4.1)] a/\HZ B0 Zi Z [.blk G (aB [W,I a7,I a8,I ad] 91)] w/\bx Z W 3 fa b4.2/\bx Z F 1 eS b3) KK ⟨_,_,_,f,h.to,H,a6,g⟩ ?_
 rintro af a w ⟨Z,b4,W,f,h,H,Y,g⟩
 obtain⟨af,rfl,gm,b5,f⟩:=iJ cp f
 refine rg λK k=>sB h f O (bn O O) λh0 h2 f a h=>cz k<|sq<|cI h f O (λct f=>?_) λct f=>?_
 refine ag<|sb ?_
 refine rg λK k=>?_
 obtain⟨cx,f⟩:=ck f
 obtain⟨ef,ei,f⟩:=bv f
 refine bB h lg Z9 O O (g.at H.zin) (λ_=>rfl) ef cx.1 (by rw[ei];exact ak cx) rfl λa h3 ej h=>?_
 refine s1 h O (al O ej A9 O) λa h=>ae 1 h O λa h=>cz k<|sq<|rg λK k=>ae 2 h O λa h=>sB h f O (oF O O) λh4 h5 f a h=>cN k h [0,5,36,37,38,44] O6 λh=>?_
 refine cI h f O (λcy f=>?_) λcy f=>?_
 refine aR ?_
 refine ah<|sI h f O (aw O O) λh6 h7 f a h=>ae 1 h O λa h=>am ?_
 exact fK (iP ⟨fq b5 f,h.to,H,Y,g⟩)
 refine ag<|rg λK k=>ae 2 h O λa h=>s1 h O (ax O) λa h=>s1 h O (ab O ku O jW O O) λa h=>s1 h O (l1 H 0 oN) λa h=>?_
 obtain⟨el,f⟩:=ck f
 obtain⟨eo,ep,f⟩:=bv f
 refine jq (enc:=fa) (sz:=3) (λ_=>rfl) h nK ee O O Y el O λa a1 u h=>?_
 rw[<-ep]at u
 refine s1 h O (ax O) λa h=>s1 h O (ab O ku O jW O O) λa h=>ap h H 0 O O O jW [a1] (by rw[u.cells]) rfl (by obtain⟨_,_,_,e_⟩:=(u).form;subst e_;rfl) (by simp) O4 rfl (hl':=[_]) rfl λw H=>?_
 refine cN k h [0,5,36,37,38] O5 λh=>?_
 refine rg λK k=>?_
 obtain⟨er,f⟩:=ck f
 obtain⟨bk,et,f⟩:=bv f
 refine cW (data:=bk) h H O O O ((by rw[et];exact dC call42 (eG er (b7 _ H.a_)))) λb0 Z w ao X H E a h=>?_
 have g:=g.sub ao
 have u:=u.sub ao
 refine s1 h O (bY lg O (E.at H.zin)) λa h=>ae 1 h O λa h=>cz k<|lb ?_
 obtain⟨eu,da,f⟩:=bv f
 refine ib (λaf a w=>∃(Z:FZ) (bq:Int),loopF eu af bq=some b1/\Fr 67 [(0,(pt G)),(5,S z9.s),(36,F),(37,I (b3.length:Int)),(38,I b4.1),(53,b0),(54,I (bk.length:Int)),(55,I bq)] a/\HZ B0 Zi Z [.blk G (aB [a1,I a7,I a8,I ad] 91)] w/\bx Z F 1 eS b3/\bx Z b0 1 eS bk/\bx Z a1 3 fa eo) KK ⟨_,_,f,h.to,H,g,E,u⟩ ?_
 rintro af a w ⟨Z,bq,f,h,H,g,E,u⟩
 obtain⟨af,rfl,h8,dd,f⟩:=iJ da f
 refine rg λK k=>sB h f O (bn O O) λh9 ha f a h=>cz k<|sq<|cI h f O (λdj f=>?_) λdj f=>?_
 refine ag<|sb ?_
 refine rg λK k=>ae 1 h O λa h=>?_
 obtain⟨dn,f⟩:=ck f
 obtain⟨ew,ey,f⟩:=bv f
 refine bB h lg Z9 O O (E.at H.zin) (λ_=>rfl) ew dn.1 (by rw[ey];exact ak dn) rfl λa hb ez h=>?_
 refine s1 h O (al O ez A9 O) λa h=>ae 2 h O λa h=>cN k h [0,5,8,9,36,37,38,53,54,55] zz λh=>?_
 refine rg λK k=>ae 2 h O λa h=>sB h f O (aH O O) λhc hf f a h=>cz k<|cI h f O (λdv f=>?_) λdv f=>?_
 refine rg λK k=>ae 1 h O λa h=>sI h f O (aw O O) λhg hj f a h=>ae 1 h O λa h=>cN k h [4] [_] λh=>?_
 cases f
 refine r1 hr h O O ⟨O,⟨_,H.hp.get 0 O,u.sub (H.bD eB 0 O)⟩,H.a_⟩
 refine ag<|cO h [0,5,36,37,38,53,54,55] O8 λh=>?_
 refine ah<|sI h f O (aw O O) λho hq f a h=>ae 1 h O λa h=>am ?_
 exact fK (bp ⟨fq dd f,h.to,H,g,E,u⟩)
 refine aR ?_
 refine cO h [0,5,36,37,38] O5 λh=>?_
 refine ah<|sI h f O (aw O O) λht hv f a h=>ae 1 h O λa h=>am ?_
 exact fK (iP ⟨fq b5 f,h.to,H,u,g⟩)
 exact aR (iP ⟨f,h.to,H,Y⟩)
def vS(rec:(List Tk)->Int->Int->Int->Int->Option ((Nd) × (List Tk))):Prop:=∀{x0:List Tk}{u:Int}{E:Int}{F:Int}{J:Int}{f:(Nd) × (List Tk)}{w0:World}(hS:rec x0 u E F J=some f){Z:FZ}(hZ:Z.inn w0){g:Nat}{G:Value}(Y:bx Z G 3 fa x0) (a1:w0.heap[g]?=some (aB [G,I u,I E,I F] 91)) (a6:Z g=none){W:Bs}(eB:W=⟨w0,[g]⟩){Zi:FZ}(eZ:Zi=Z) (hG:jY w0),Calls prog 39 [(pt g),I J].toArray w0 (bj λv w=>∃X,v=.agg #[I f.1.k,I f.1.op,I f.1.v.k,I f.1.v.n,S f.1.v.s,I f.1.a.c.s,I f.1.a.c.c,I f.1.a.c.r,.bool f.1.a.ac,.bool f.1.a.ar,I f.1.b.c.s,I f.1.b.c.c,I f.1.b.c.r,.bool f.1.b.ac,.bool f.1.b.ar,S f.1.nm,X]/\bi (ZB Zi w0.heap.size w) X aj f.1.l/\(∃H,w.heap[g]?=some (aB [H,I u,I E,I F] 91)/\bx (ZB Zi w0.heap.size w) H 3 fa f.2)/\ExtB W w)
theorem jE{rec:(List Tk)->Int->Int->Int->Int->Option ((Nd) × (List Tk))}(a6:vS rec){x0:List Tk}{F:Int}{G:Int}{J:Int}{f:(Nd) × (List Tk)}{w0:World}(hS:bF rec x0 F G J=some f){Z:FZ}(hZ:Z.inn w0){a7 u:Nat}{Y:Value}(a1:Z a7=some (aB [(pt u)] 89)) (a8:bx Z Y 3 fa x0) (ad:w0.heap[u]?=some (aB [Y,I F,I G,I J] 91)) (b2:Z u=none){B0:Bs}(eB:B0=⟨w0,[u]⟩){Zi:FZ}(eZ:Zi=Z) (hG:jY w0):Calls prog 135 [(pt a7)].toArray w0 (bj λv w=>∃u1,v=.agg #[I f.1.k,I f.1.op,I f.1.v.k,I f.1.v.n,S f.1.v.s,I f.1.a.c.s,I f.1.a.c.c,I f.1.a.c.r,.bool f.1.a.ac,.bool f.1.a.ar,I f.1.b.c.s,I f.1.b.c.c,I f.1.b.c.r,.bool f.1.b.ac,.bool f.1.b.ar,S f.1.nm,u1]/\bi (ZB Zi w0.heap.size w) u1 aj f.1.l/\(∃af,w.heap[u]?=some (aB [af,I F,I G,I J] 91)/\bx (ZB Zi w0.heap.size w) af 3 fa f.2)/\ExtB B0 w):=by
 have H:HZ B0 Zi Z [.blk u (aB [Y,I F,I G,I J] 91)] w0:=by rw[eB,eZ];exact HZ.dH hZ ad b2
 refine tf func135 [0] [_] λQ a h hr hn=>?_
 have b3:∀w,ExtB B0 w->jY w:=λw X=>hG.qw a8.form ad rfl eB X
 clear eZ
 have H:HZ B0 _ _ [_] _:=H
 unfold bF at hS
 refine rg λK k=>zA h H iS aA (λx=>[_,x]) λa p1 w X H h=>?_
 refine cz k<|rg λK k=>s1 h O (aE O pg (H.zin _ _ a1) O) λa h=>?_
 obtain⟨y2,f2,hS⟩:=bo hS
 refine st2 h O O O (dC call39 (a6 f2 H.zin a8 (H.hp.get 0 O) (H.dG 0 O _ O) O O (b3 _ H.a_))) ?_
 rintro v_ w ⟨b1,rfl,g,⟨b4,ao,E⟩,X⟩ a h
 obtain⟨Z,b0,W,H⟩:=H.b_ 0 rfl ao X (hl':=O2) rfl
 have a1:=b0 _ _ a1
 have g:=g.sub W
 have E:=E.sub W
 have H:HZ B0 _ _ O2 _:=H
 refine ap h H 1 O O O aL aA O O (by obtain⟨_,_,_,e_⟩:=(g).form;subst e_;rfl) (by simp) aA rfl (hl':=O2) rfl λw H=>?_
 refine cz k ?_
 cases hS
 refine r1 hr h O (aO H 1 bQ aL aA) ⟨_,O,g.sub (H.bD eB 0 O),⟨_,H.hp.get 0 O,E.sub (H.bD eB 0 O)⟩,H.a_⟩
theorem kG{rec:(List Tk)->Int->Int->Int->Int->Option ((Nd) × (List Tk))}(a6:vS rec){x0:List Tk}{F:Int}{G:Int}{J:Int}{f:(Nd) × (List Tk)}{w0:World}(hS:cw rec x0 F G J=some f){Z:FZ}(hZ:Z.inn w0){a7 u:Nat}{Y:Value}(a1:Z a7=some (aB [(pt u)] 89)) (a8:bx Z Y 3 fa x0) (ad:w0.heap[u]?=some (aB [Y,I F,I G,I J] 91)) (b2:Z u=none){B0:Bs}(eB:B0=⟨w0,[u]⟩){Zi:FZ}(eZ:Zi=Z) (hG:jY w0):Calls prog 199 [(pt a7)].toArray w0 (bj λv w=>∃u1,v=.agg #[I f.1.k,I f.1.op,I f.1.v.k,I f.1.v.n,S f.1.v.s,I f.1.a.c.s,I f.1.a.c.c,I f.1.a.c.r,.bool f.1.a.ac,.bool f.1.a.ar,I f.1.b.c.s,I f.1.b.c.c,I f.1.b.c.r,.bool f.1.b.ac,.bool f.1.b.ar,S f.1.nm,u1]/\bi (ZB Zi w0.heap.size w) u1 aj f.1.l/\(∃af,w.heap[u]?=some (aB [af,I F,I G,I J] 91)/\bx (ZB Zi w0.heap.size w) af 3 fa f.2)/\ExtB B0 w):=by
 have H:HZ B0 Zi Z [.blk u (aB [Y,I F,I G,I J] 91)] w0:=by rw[eB,eZ];exact HZ.dH hZ ad b2
 refine tf func199 [0] [_] λQ a h hr hn=>?_
 have b3:∀w,ExtB B0 w->jY w:=λw X=>hG.qw a8.form ad rfl eB X
 clear eZ
 have H:HZ B0 _ _ [_] _:=H
 unfold cw at hS
 refine rg λK k=>zA h H iS aA (λx=>[_,x]) λa p1 w X H h=>?_
 refine cz k<|rg λK k=>s1 h O (aE O pg (H.zin _ _ a1) O) λa h=>?_
 obtain⟨y2,f2,hS⟩:=bo hS
 refine st2 h O O O (dC call39 (a6 f2 H.zin a8 (H.hp.get 0 O) (H.dG 0 O _ O) O O (b3 _ H.a_))) ?_
 rintro v_ w ⟨b1,rfl,g,⟨b4,ao,E⟩,X⟩ a h
 obtain⟨Z,b0,W,H⟩:=H.b_ 0 rfl ao X (hl':=O2) rfl
 have a1:=b0 _ _ a1
 have g:=g.sub W
 have E:=E.sub W
 have H:HZ B0 _ _ O2 _:=H
 refine ap h H 1 O O O aL aA O O (by obtain⟨_,_,_,e_⟩:=(g).form;subst e_;rfl) (by simp) aA rfl (hl':=O2) rfl λw H=>?_
 refine cz k ?_
 cases hS
 refine r1 hr h O (aO H 1 bQ aL aA) ⟨_,O,g.sub (H.bD eB 0 O),⟨_,H.hp.get 0 O,E.sub (H.bD eB 0 O)⟩,H.a_⟩
end Go.Proofs.YtnllbjchcfpmpaaGreatDoor
