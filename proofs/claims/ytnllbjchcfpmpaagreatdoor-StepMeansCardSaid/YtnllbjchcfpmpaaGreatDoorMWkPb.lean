/- Joined texts. -/
import Derived.Test.YtnllbjchcfpmpaaGreatDoorMFPa
import Derived.Test.YtnllbjchcfpmpaaGreatDoorMWkLy
set_option linter.all false
namespace Go.Proofs.YtnllbjchcfpmpaaGreatDoor
open Go.Stp Go.RowKit Go.ValP Go.Sp _root_.Go.Proofs.Tryz
set_option maxRecDepth 100000
theorem cQ{x0:List Tk}{G J W:Int}{x1:List UInt8}{Y:(Bool) × (List Tk)}{w0:World}(g:aN x0 G J W x1=some Y){Z:FZ}(hZ:Z.inn w0){E:Nat}{a1:Value}(F:bx Z a1 3 fa x0) (a8:w0.heap[E]?=some (aB [a1,I G,I J,I W] 91)) (ad:Z E=none){B0:Bs}(eB:B0=⟨w0,[E]⟩){Zi:FZ}(eZ:Zi=Z):Calls prog 99 [(pt E),S x1].toArray w0 (bj λv w=>v=.bool Y.1/\(∃a6,w.heap[E]?=some (aB [a6,I G,I J,I W] 91)/\bx (ZB Zi w0.heap.size w) a6 3 fa Y.2)/\ExtB B0 w):=by
 have H:HZ B0 Zi Z [.blk E (aB [a1,I G,I J,I W] 91)] w0:=by rw[eB,eZ];exact HZ.dH hZ a8 ad
 refine tf func99 [0,1] O2 λQ a h hr hn=>?_
 clear eZ
 have H:HZ B0 _ _ [_] _:=H
 unfold aN at g
 refine rg λK k=>ae 1 h O λa h=>cz k<|sq<|rg λK k=>ae 1 h O λa h=>s1 h O (ax O) λa h=>s1 h O (ab O ku O jW O O) λa h=>s1 h O (l1 H 0 oN) λa h=>s1 h O (bY nK O (F.at H.zin)) λa h=>sB h g O (aD O O) λz2 e2 g a h=>ae 1 h O λa h=>ai h O O (gF O) O O (λf=>an O) λa h=>?_
 refine ai h O O (gF O) O O (λf=>ax (eg f O)) λa h=>?_
 refine ai h O O (gF O) O O (λf=>ab (eg f O) ku O jW O O) λa h=>?_
 refine ai h O O (gF O) O O (λf=>aE (eg f O) oN (H.hp.get 0 O) O) λa h=>?_
 obtain⟨c3,g⟩:=ck g
 obtain⟨z4,e4,g⟩:=bv g
 refine fv h O (gF O) nK ee (λf=>(eg f O)) (λf=>rfl) (F.at H.zin) (λ_=>rfl) z4 (λf=>(c3 f).1) (λf=>(by rw[e4];exact ak (c3 f))) rfl λa b3 af h=>?_
 refine gj h O (gF O) (λf=>(eg f O)) (λf=>(af f)) j1 O Z3 O O O λa b4 ao h=>?_
 refine ai h O O (gF O) O O (λf=>al (eg f O) (ao f) A3 O) λa h=>?_
 obtain⟨z5,e5,g⟩:=bv g
 refine ai h O O (gF O) O O (λf=>vB e5 (fN (eg f O) O)) λa h=>?_
 refine sB h g O (ca O O) λz6 e6 g a h=>ae 1 h O λa h=>ai h O O (gF O) O O (λf=>an O) λa h=>?_
 refine ai h O O (gF O) O O (λf=>ax (eg f O)) λa h=>?_
 refine ai h O O (gF O) O O (λf=>ab (eg f O) ku O jW O O) λa h=>?_
 refine ai h O O (gF O) O O (λf=>aE (eg f O) oN (H.hp.get 0 O) O) λa h=>?_
 obtain⟨c7,g⟩:=ck g
 obtain⟨z8,e8,g⟩:=bv g
 refine fv h O (gF O) nK ee (λf=>(eg f O)) (λf=>rfl) (F.at H.zin) (λ_=>rfl) z8 (λf=>(c7 f).1) (λf=>(by rw[e8];exact ak (c7 f))) rfl λa b5 b0 h=>?_
 refine gj h O (gF O) (λf=>(eg f O)) (λf=>(b0 f)) j1 O Z9 O O O λa b6 aQ h=>?_
 refine ai h O O (gF O) O O (λf=>al (eg f O) (aQ f) A9 O) λa h=>?_
 refine ai h O O (gF O) O O (λf=>an O) λa h=>?_
 obtain⟨z9,e9,g⟩:=bv g
 refine ai h O O (gF O) O O (λf=>vB e9 (oF (eg f O) (eg f O))) λa h=>?_
 refine sB h g O (ca O O) λb7 bb g a h=>cN k h [0,31] O2 λh=>?_
 refine cI h g O (λa7 g=>?_) λa7 g=>?_
 refine rg λK k=>ae 1 h O λa h=>cz k ?_
 cases g
 refine r1 hr h O O ⟨O,⟨_,H.hp.get 0 O,F.sub (H.bD eB 0 O)⟩,H.a_⟩
 refine ag<|rg λK k=>ae 2 h O λa h=>s1 h O (ax O) λa h=>s1 h O (ab O ku O jW O O) λa h=>s1 h O (l1 H 0 oN) λa h=>?_
 obtain⟨b1,g⟩:=ck g
 obtain⟨bk,b2,g⟩:=bv g
 refine jq (enc:=fa) (sz:=3) (λ_=>rfl) h nK ee O O F b1 O λa X u h=>?_
 rw[<-b2]at u
 refine s1 h O (ax O) λa h=>s1 h O (ab O ku O jW O O) λa h=>ap h H 0 O O O jW [X] (by rw[u.cells]) rfl (by obtain⟨_,_,_,e_⟩:=(u).form;subst e_;rfl) (by simp) O4 rfl (hl':=[_]) rfl λw H=>?_
 refine cN k h [] [] λh=>?_
 refine rg λK k=>ae 1 h O λa h=>cz k ?_
 cases g
 refine r1 hr h O O ⟨O,⟨_,H.hp.get 0 O,u.sub (H.bD eB 0 O)⟩,H.a_⟩
theorem eE{x0:List Tk}{E F G:Int}{x1:List Tk->Int->Int->Int->Option ((Nd) × (List Tk))}{f:(Nd) × (List Tk)}{w0:World}(J:be x0 E F G x1=some f){Z:FZ}(hZ:Z.inn w0){u:Nat}{W:Value}(a8:bx Z W 3 fa x0){a6:FuncId}{fs1 cp1:Array Value}(b2:∀q w,(callFunc a6 q).run prog w=.ok (.enter a6 q) w){af:List (Nat × Obj)}(b3:zg af Z) (b4:∀{x0:List Tk}{E:Int}{F:Int}{G:Int}{f:(Nd) × (List Tk)}{w0:World}(J:x1 x0 E F G=some f){Z:FZ}(hZ:Z.inn w0){W:Value}(a8:bx Z W 3 fa x0) (ad:w0.heap[u]?=some (aB [W,I E,I F,I G] 91)) (ao:Z u=none){B0:Bs}(eB:B0=⟨w0,[u]⟩){Zi:FZ}(eZ:Zi=Z) (hG:jY w0) (bq:zg af Z),Calls prog a6 (fs1.toList++[]++cp1.toList).toArray w0 (bj λv w=>∃u1,v=.agg #[I f.1.k,I f.1.op,I f.1.v.k,I f.1.v.n,S f.1.v.s,I f.1.a.c.s,I f.1.a.c.c,I f.1.a.c.r,.bool f.1.a.ac,.bool f.1.a.ar,I f.1.b.c.s,I f.1.b.c.c,I f.1.b.c.r,.bool f.1.b.ac,.bool f.1.b.ar,S f.1.nm,u1]/\bi (ZB Zi w0.heap.size w) u1 aj f.1.l/\(∃Y,w.heap[u]?=some (aB [Y,I E,I F,I G] 91)/\bx (ZB Zi w0.heap.size w) Y 3 fa f.2)/\ExtB B0 w)) (ad:w0.heap[u]?=some (aB [W,I E,I F,I G] 91)) (ao:Z u=none){B0:Bs}(eB:B0=⟨w0,[u]⟩){Zi:FZ}(eZ:Zi=Z) (hG:jY w0):Calls prog 100 [(pt u),.func (.func a6) fs1 cp1].toArray w0 (bj λv w=>∃u1,v=.agg #[I f.1.k,I f.1.op,I f.1.v.k,I f.1.v.n,S f.1.v.s,I f.1.a.c.s,I f.1.a.c.c,I f.1.a.c.r,.bool f.1.a.ac,.bool f.1.a.ar,I f.1.b.c.s,I f.1.b.c.c,I f.1.b.c.r,.bool f.1.b.ac,.bool f.1.b.ar,S f.1.nm,u1]/\bi (ZB Zi w0.heap.size w) u1 aj f.1.l/\(∃Y,w.heap[u]?=some (aB [Y,I E,I F,I G] 91)/\bx (ZB Zi w0.heap.size w) Y 3 fa f.2)/\ExtB B0 w):=by
 have H:HZ B0 Zi Z [.blk u (aB [W,I E,I F,I G] 91)] w0:=by rw[eB,eZ];exact HZ.dH hZ ad ao
 refine tf func100 [0,1] O2 λQ a h hr hn=>?_
 have b5:∀w,ExtB B0 w->jY w:=λw X=>hG.qw a8.form ad rfl eB X
 clear eZ
 have H:HZ B0 _ _ [_] _:=H
 unfold be at J
 refine rg λK k=>zA h H iS aA (λx=>[_,x]) λa p1 w X H h=>?_
 refine cz k<|sq<|rg λK k=>ae 1 h O λa h=>s1 h O (ax O) λa h=>s1 h O (ab O ku O Z3 O O) λa h=>s1 h O (l1 H 0 A3) λa h=>sB h J O (aD O O) λz3 e3 J a h=>cN k h [0,1,4,10] O4 λh=>?_
 refine cI h J O (λb6 J=>?_) λb6 J=>?_
 exact nomatch J
 refine ag<|rg λK k=>ae 1 h O λa h=>s1 h O (ax O) λa h=>s1 h O (ab O ku O Z3 O O) λa h=>s1 h O (l1 H 0 A3) λa h=>sI h J O (aw O O) λz5 e5 J a h=>s1 h O (ax O) λa h=>s1 h O (ab O ku O Z3 O O) λa h=>zS h H 0 Z3 [_] O4 O2 λw H=>?_
 refine cN k h [0,1,4] O3 λh=>?_
 refine rg λK k=>ae 1 h O λa h=>?_
 obtain⟨y6,f6,J⟩:=bo J
 refine st2 h O O O (wq [] O O b2 _ O (b4 f6 H.zin a8 (H.hp.get 0 O) (H.dG 0 O _ O) O O (b5 _ H.a_) b3)) ?_
 rintro v_ w ⟨b0,rfl,g,⟨bb,b1,a1⟩,X⟩ a h
 obtain⟨Z,bk,a7,H⟩:=H.b_ 0 rfl b1 X (hl':=O2) rfl
 have g:=g.sub a7
 have a1:=a1.sub a7
 have H:HZ B0 _ _ O2 _:=H
 refine zA h H iS aA (λx=>[_,_,x]) λa p8 w X H h=>?_
 refine ap h H 2 O O O aL aA O O (by obtain⟨_,_,_,e_⟩:=(g).form;subst e_;rfl) (by simp) aA rfl (hl':=O3) rfl λw H=>?_
 refine cz k<|rg λK k=>ae 1 h O λa h=>s1 h O (ax O) λa h=>s1 h O (ab O ku O Z3 O O) λa h=>s1 h O (l1 H 0 A3) λa h=>sI h J O (bf O O) λz9 e9 J a h=>s1 h O (ax O) λa h=>s1 h O (ab O ku O Z3 O O) λa h=>zS h H 0 Z3 [_] O4 O3 λw H=>?_
 refine cN k h [4,5] O2 λh=>?_
 refine rg λK k=>s1 h O (lA H 2 bQ aL aA) λa h=>ap h H 1 O O O aL aA O O (by obtain⟨_,_,_,e_⟩:=(g).form;subst e_;rfl) (by simp) aA rfl (hl':=O3) rfl λw H=>?_
 refine cz k ?_
 obtain⟨b7,J⟩:=ck J
 rw[b7]at H
 cases J
 refine r1 hr h O (aO H 1 bQ aL aA) ⟨_,O,g.sub (H.bD eB 0 O),⟨_,H.hp.get 0 O,a1.sub (H.bD eB 0 O)⟩,H.a_⟩
end Go.Proofs.YtnllbjchcfpmpaaGreatDoor
