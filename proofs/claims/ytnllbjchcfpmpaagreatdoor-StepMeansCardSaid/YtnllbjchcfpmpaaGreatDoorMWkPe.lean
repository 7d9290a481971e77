/- Joined texts. -/
import Derived.Test.YtnllbjchcfpmpaaGreatDoorMWkPd
set_option linter.all false
namespace Go.Proofs.YtnllbjchcfpmpaaGreatDoor
open Go.Stp Go.RowKit Go.ValP Go.Sp _root_.Go.Proofs.Tryz
set_option maxRecDepth 100000
def vU(rec:(List Tk)->Int->Int->Int->Int->Option ((Nd) × (List Tk))):Prop:=∀{x0:List Tk}{u:Int}{E:Int}{F:Int}{x1:Int}{f:(Nd) × (List Tk)}{w0:World}(hS:rec x0 u E F x1=some f){Z:FZ}(hZ:Z.inn w0){g:Nat}{G:Value}(X:bx Z G 3 fa x0) (Y:w0.heap[g]?=some (aB [G,I u,I E,I F] 91)) (a1:Z g=none){J:Bs}(eB:J=⟨w0,[g]⟩){Zi:FZ}(eZ:Zi=Z) (hG:jY w0),Calls prog 39 [(pt g),I x1].toArray w0 (bj λv w=>∃W,v=.agg #[I f.1.k,I f.1.op,I f.1.v.k,I f.1.v.n,S f.1.v.s,I f.1.a.c.s,I f.1.a.c.c,I f.1.a.c.r,.bool f.1.a.ac,.bool f.1.a.ar,I f.1.b.c.s,I f.1.b.c.c,I f.1.b.c.r,.bool f.1.b.ac,.bool f.1.b.ar,S f.1.nm,W]/\bi (ZB Zi w0.heap.size w) W aj f.1.l/\(∃H,w.heap[g]?=some (aB [H,I u,I E,I F] 91)/\bx (ZB Zi w0.heap.size w) H 3 fa f.2)/\ExtB J w)
def wB(G:(List Tk)->Int->Int->Int->Option ((Nd) × (List Tk))):Prop:=∀{x0:List Tk}{u:Int}{E:Int}{F:Int}{f:(Nd) × (List Tk)}{w0:World}(hS:G x0 u E F=some f){Z:FZ}(hZ:Z.inn w0){g:Nat}{H:Value}(Y:bx Z H 3 fa x0) (a1:w0.heap[g]?=some (aB [H,I u,I E,I F] 91)) (a6:Z g=none){W:Bs}(eB:W=⟨w0,[g]⟩){Zi:FZ}(eZ:Zi=Z) (hG:jY w0),Calls prog 58 [(pt g)].toArray w0 (bj λv w=>∃X,v=.agg #[I f.1.k,I f.1.op,I f.1.v.k,I f.1.v.n,S f.1.v.s,I f.1.a.c.s,I f.1.a.c.c,I f.1.a.c.r,.bool f.1.a.ac,.bool f.1.a.ar,I f.1.b.c.s,I f.1.b.c.c,I f.1.b.c.r,.bool f.1.b.ac,.bool f.1.b.ar,S f.1.nm,X]/\bi (ZB Zi w0.heap.size w) X aj f.1.l/\(∃J,w.heap[g]?=some (aB [J,I u,I E,I F] 91)/\bx (ZB Zi w0.heap.size w) J 3 fa f.2)/\ExtB W w)
theorem gM{rec:(List Tk)->Int->Int->Int->Int->Option ((Nd) × (List Tk))}(dd:vU rec){c7:(List Tk)->Int->Int->Int->Option ((Nd) × (List Tk))}(c8:wB c7){x0:List Tk}{b3:Int}{b4:Int}{b5:Int}{g:(Nd) × (List Tk)}{w0:World}(E:aU rec c7 x0 b3 b4 b5=some g){Z:FZ}(hZ:Z.inn w0){a8:Nat}{cc:Value}(bq:bx Z cc 3 fa x0) (bs:w0.heap[a8]?=some (aB [cc,I b3,I b4,I b5] 91)) (ch:Z a8=none){B0:Bs}(eB:B0=⟨w0,[a8]⟩){Zi:FZ}(eZ:Zi=Z) (hG:jY w0):Calls prog 58 [(pt a8)].toArray w0 (bj λv w=>∃u1,v=.agg #[I g.1.k,I g.1.op,I g.1.v.k,I g.1.v.n,S g.1.v.s,I g.1.a.c.s,I g.1.a.c.c,I g.1.a.c.r,.bool g.1.a.ac,.bool g.1.a.ar,I g.1.b.c.s,I g.1.b.c.c,I g.1.b.c.r,.bool g.1.b.ac,.bool g.1.b.ar,S g.1.nm,u1]/\bi (ZB Zi w0.heap.size w) u1 aj g.1.l/\(∃dj,w.heap[a8]?=some (aB [dj,I b3,I b4,I b5] 91)/\bx (ZB Zi w0.heap.size w) dj 3 fa g.2)/\ExtB B0 w):=by
 have H:HZ B0 Zi Z [.blk a8 (aB [cc,I b3,I b4,I b5] 91)] w0:=by rw[eB,eZ];exact HZ.dH hZ bs ch
 refine tf func58 [0] [_] λQ a h hr hn=>?_
 have dn:∀w,ExtB B0 w->jY w:=λw X=>hG.qw bq.form bs rfl eB X
 clear eZ
 have H:HZ B0 _ _ [_] _:=H
 unfold aU at E
 refine rg λK k=>zA h H iS aA (λx=>[_,x]) λa p1 w X H h=>?_
 refine cz k<|sq<|rg λK k=>ae 1 h O λa h=>?_
 obtain⟨y3,f3,E⟩:=bo E
 refine st2 h O O O (dC call99 (cQ f3 H.zin bq (H.hp.get 0 O) (H.dG 0 O _ O) O O)) ?_
 rintro v_ w ⟨rfl,⟨eb,dv,b2⟩,X⟩ a h
 obtain⟨Z,J,u,H⟩:=H.b_ 0 rfl dv X (hl':=O2) rfl
 have b2:=b2.sub u
 have H:HZ B0 _ _ O2 _:=H
 refine cz k<|cI h E O (λe6 E=>?_) λe6 E=>?_
 refine rg λK k=>ae 2 h O λa h=>s1 (V:=.func (.func 58) #[(pt a8)] #[]) h O (tu [_] O) λa h=>?_
 obtain⟨y6,f6,E⟩:=bo E
 refine st2 h O O O (dC call100 (eE (fs1:=#[(pt a8)]) (cp1:=#[]) f6 H.zin b2 call58 zg.nil (@λ_ _ _ _ _ _ E _ hZ _ bq bs ch _ eB _ eZ hG ed=>c8 E hZ bq bs ch eB eZ hG) (H.hp.get 0 O) (H.dG 0 O _ O) O O (dn _ H.a_))) ?_
 rintro v_ w ⟨e5,rfl,W,⟨ec,dz,b0⟩,X⟩ a h
 obtain⟨Z,J,u,H⟩:=H.b_ 0 rfl dz X (hl':=O2) rfl
 have W:=W.sub u
 have b0:=b0.sub u
 have H:HZ B0 _ _ O2 _:=H
 obtain⟨y8,f8,E⟩:=bo E
 refine st2 h O O O (dC call22 (ii (x0:=(5:Int)) (x1:=y6.1) f8 H.zin W)) ?_
 rintro v_ w ⟨e0,rfl,Y,X⟩ a h
 obtain⟨Z,J,u,H⟩:=H.aP X
 have W:=W.sub J
 have b0:=b0.sub J
 have Y:=Y.sub u
 refine ap h H 1 O O O aL aA O O (by obtain⟨_,_,_,e_⟩:=(Y).form;subst e_;rfl) (by simp) aA rfl (hl':=O2) rfl λw H=>?_
 refine cN k h [2] [_] λh=>?_
 cases E
 refine r1 hr h O (aO H 1 bQ aL aA) ⟨_,O,Y.sub (H.bD eB 0 O),⟨_,H.hp.get 0 O,b0.sub (H.bD eB 0 O)⟩,H.a_⟩
 refine ag<|rg λK k=>ae 1 h O λa h=>?_
 obtain⟨ef,f10,E⟩:=bo E
 refine st2 h O O O (dC call101 (kf dd f10 H.zin b2 (H.hp.get 0 O) (H.dG 0 O _ O) O O (dn _ H.a_))) ?_
 rintro v_ w ⟨cy,rfl,F,⟨e7,cp,b1⟩,X⟩ a h
 obtain⟨Z,J,u,H⟩:=H.b_ 0 rfl cp X (hl':=O2) rfl
 have F:=F.sub u
 have b1:=b1.sub u
 have H:HZ B0 _ _ O2 _:=H
 refine zA h H iS aA (λx=>[_,_,x]) λa c6 w X H h=>?_
 refine ap h H 2 O O O aL aA O O (by obtain⟨_,_,_,e_⟩:=(F).form;subst e_;rfl) (by simp) aA rfl (hl':=O3) rfl λw H=>?_
 refine cN k h [0,2,3] O3 λh=>?_
 obtain⟨e8,e1,E⟩:=bv E
 refine Bg (λa w=>∃(Z:FZ) (b7:(List (Tk)) × Nd) (ad:Value) (a1:Value),e8 b7=some g/\Fr 18 [(2,(pt p1)),(3,(pt c6))] a/\HZ B0 Zi Z [.blk a8 (aB [ad,I b3,I b4,I b5] 91),.blk p1 (aB [I 0,I 0,I 0,I 0,S [],I 0,I 0,I 0,.bool false,.bool false,I 0,I 0,I 0,.bool false,.bool false,S [],.slice none 0 0] 34),.blk c6 (aB (nL b7.2 a1) 34)] w/\bx Z ad 3 fa b7.1/\bi Z a1 aj b7.2.l) ?_ ?_
 rintro a w ⟨Z,b7,ad,a1,E,h,H,bb,ao⟩
 subst e1
 refine rg λK k=>s1 h O (lA H 2 bQ aL aA) λa h=>ap h H 1 O O O aL aA O O (by obtain⟨_,_,_,e_⟩:=(ao).form;subst e_;rfl) (by simp) aA rfl (hl':=O3) rfl λw H=>?_
 refine cz k ?_
 cases E
 refine r1 hr h O (aO H 1 bQ aL aA) ⟨_,O,ao.sub (H.bD eB 0 O),⟨_,H.hp.get 0 O,bb.sub (H.bD eB 0 O)⟩,H.a_⟩
 obtain⟨e9,e2,E⟩:=bv E
 refine ib (λct a w=>∃(Z:FZ) (b6:(List (Tk)) × Nd) (af:Value) (a6:Value),loopF e9 ct b6=some g/\Fr 18 [(0,(pt a8)),(2,(pt p1)),(3,(pt c6))] a/\HZ B0 Zi Z [.blk a8 (aB [af,I b3,I b4,I b5] 91),.blk p1 (aB [I 0,I 0,I 0,I 0,S [],I 0,I 0,I 0,.bool false,.bool false,I 0,I 0,I 0,.bool false,.bool false,S [],.slice none 0 0] 34),.blk c6 (aB (nL b6.2 a6) 34)] w/\bx Z af 3 fa b6.1/\bi Z a6 aj b6.2.l) KK ⟨_,_,_,_,E,h.to,H,b1,F⟩ ?_
 rintro ct a w ⟨Z,b6,af,a6,E,h,H,bk,f⟩
 obtain⟨ct,rfl,ei,e3,E⟩:=iJ e2 E
 refine sq<|rg λK k=>ae 1 h O λa h=>?_
 obtain⟨ej,f22,E⟩:=bo E
 refine st2 h O O O (dC call99 (cQ f22 H.zin bk (H.hp.get 0 O) (H.dG 0 O _ O) O O)) ?_
 rintro v_ w ⟨rfl,⟨ea,cx,a7⟩,X⟩ a h
 obtain⟨Z,J,u,H⟩:=H.b_ 0 rfl cx X (hl':=O3) rfl
 have f:=f.sub J
 have a7:=a7.sub u
 have H:HZ B0 _ _ O3 _:=H
 refine cz k<|cI h E O (λe4 E=>?_) λe4 E=>?_
 refine ag<|lb<|ah<|s1 h O (lA H 2 bQ aL aA) λa h=>?_
 obtain⟨el,f26,E⟩:=bo E
 refine st2 h O O O (dC call22 (ii (x0:=(6:Int)) (x1:=b6.2) f26 H.zin f)) ?_
 rintro v_ w ⟨da,rfl,G,X⟩ a h
 obtain⟨Z,J,u,H⟩:=H.aP X
 have f:=f.sub J
 have a7:=a7.sub J
 have G:=G.sub u
 refine ap h H 2 O O O aL aA O O (by obtain⟨_,_,_,e_⟩:=(G).form;subst e_;rfl) (by simp) aA rfl (hl':=O3) rfl λw H=>?_
 refine am ?_
 exact fK (Cp ⟨fq e3 E,h.to,H,a7,G⟩)
 exact aR (Cp ⟨E,h.to,H,a7,f⟩)
theorem li{rec:(List Tk)->Int->Int->Int->Int->Option ((Nd) × (List Tk))}(ao:vU rec){b7:(List Tk)->Int->Int->Int->Option ((Nd) × (List Tk))}(bb:wB b7){x0:List Tk}{b0:Int}{b1:Int}{b2:Int}{x1:Int}{g:(Nd) × (List Tk)}{w0:World}(F:bG rec b7 x0 b0 b1 b2 x1=some g){Z:FZ}(hZ:Z.inn w0){ad:Nat}{bk:Value}(bq:bx Z bk 3 fa x0) (ch:w0.heap[ad]?=some (aB [bk,I b0,I b1,I b2] 91)) (dv:Z ad=none){B0:Bs}(eB:B0=⟨w0,[ad]⟩){Zi:FZ}(eZ:Zi=Z) (hG:jY w0):Calls prog 39 [(pt ad),I x1].toArray w0 (bj λv w=>∃u1,v=.agg #[I g.1.k,I g.1.op,I g.1.v.k,I g.1.v.n,S g.1.v.s,I g.1.a.c.s,I g.1.a.c.c,I g.1.a.c.r,.bool g.1.a.ac,.bool g.1.a.ar,I g.1.b.c.s,I g.1.b.c.c,I g.1.b.c.r,.bool g.1.b.ac,.bool g.1.b.ar,S g.1.nm,u1]/\bi (ZB Zi w0.heap.size w) u1 aj g.1.l/\(∃cp,w.heap[ad]?=some (aB [cp,I b0,I b1,I b2] 91)/\bx (ZB Zi w0.heap.size w) cp 3 fa g.2)/\ExtB B0 w):=by
 have H:HZ B0 Zi Z [.blk ad (aB [bk,I b0,I b1,I b2] 91)] w0:=by rw[eB,eZ];exact HZ.dH hZ ch dv
 refine tf func39 [0,1] O2 λQ a h hr hn=>?_
 have b6:∀w,ExtB B0 w->jY w:=λw X=>hG.qw bq.form ch rfl eB X
 clear eZ
 have H:HZ B0 _ _ [_] _:=H
 unfold bG at F
 refine rg λK k=>zA h H iS aA (λx=>[_,x]) λa p1 w X H h=>?_
 refine cz k<|sq<|rg λK k=>ae 1 h O λa h=>sB h F O (aD O O) λz3 e3 F a h=>cz k<|cI h F O (λdz F=>?_) λdz F=>?_
 refine rg λK k=>ae 1 h O λa h=>?_
 obtain⟨y5,f5,F⟩:=bo F
 refine st2 h O O O (dC call58 (gM ao bb f5 H.zin bq (H.hp.get 0 O) (H.dG 0 O _ O) O O (b6 _ H.a_))) ?_
 rintro v_ w ⟨ct,rfl,W,⟨ea,cx,b3⟩,X⟩ a h
 obtain⟨Z,J,E,H⟩:=H.b_ 0 rfl cx X (hl':=O2) rfl
 have W:=W.sub E
 have b3:=b3.sub E
 have H:HZ B0 _ _ O2 _:=H
 refine ap h H 1 O O O aL aA O O (by obtain⟨_,_,_,e_⟩:=(W).form;subst e_;rfl) (by simp) aA rfl (hl':=O2) rfl λw H=>?_
 refine cN k h [4] [_] λh=>?_
 cases F
 refine r1 hr h O (aO H 1 bQ aL aA) ⟨_,O,W.sub (H.bD eB 0 O),⟨_,H.hp.get 0 O,b3.sub (H.bD eB 0 O)⟩,H.a_⟩
 refine ag<|rg λK k=>ae 2 h O λa h=>sI h F O (aw O O) λz7 e7 F a h=>?_
 obtain⟨y8,f8,F⟩:=bo F
 refine st2 h O O O (dC call39 (ao f8 H.zin bq (H.hp.get 0 O) (H.dG 0 O _ O) O O (b6 _ H.a_))) ?_
 rintro v_ w ⟨cy,rfl,Y,⟨eb,da,b4⟩,X⟩ a h
 obtain⟨Z,J,E,H⟩:=H.b_ 0 rfl da X (hl':=O2) rfl
 have Y:=Y.sub E
 have b4:=b4.sub E
 have H:HZ B0 _ _ O2 _:=H
 refine zA h H iS aA (λx=>[_,_,x]) λa uM w X H h=>?_
 refine ap h H 2 O O O aL aA O O (by obtain⟨_,_,_,e_⟩:=(Y).form;subst e_;rfl) (by simp) aA rfl (hl':=O3) rfl λw H=>?_
 refine cN k h [0,1,4,5] O4 λh=>?_
 refine lb ?_
 obtain⟨e0,dd,F⟩:=bv F
 refine ib (λbs a w=>∃(Z:FZ) (af:(List (Tk)) × Nd) (a6:Value) (a1:Value),loopF e0 bs af=some g/\Fr 28 [(0,(pt ad)),(1,I x1),(4,(pt p1)),(5,(pt uM))] a/\HZ B0 Zi Z [.blk ad (aB [a6,I b0,I b1,I b2] 91),.blk p1 (aB [I 0,I 0,I 0,I 0,S [],I 0,I 0,I 0,.bool false,.bool false,I 0,I 0,I 0,.bool false,.bool false,S [],.slice none 0 0] 34),.blk uM (aB (nL af.2 a1) 34)] w/\bx Z a6 3 fa af.1/\bi Z a1 aj af.2.l) KK ⟨_,_,_,_,F,h.to,H,b4,Y⟩ ?_
 rintro bs a w ⟨Z,af,a6,a1,F,h,H,b5,f⟩
 obtain⟨bs,rfl,ec,dj,F⟩:=iJ dd F
 refine lb<|rg λK k=>ae 2 h O λa h=>?_
 obtain⟨e1,f17,F⟩:=bo F
 refine st2 h O O O (dC call59 (mL f17 H.zin b5 (H.hp.get 0 O) (H.dG 0 O _ O) O O (b6 _ H.a_))) ?_
 rintro v_ w ⟨rfl,⟨e2,c6,a8⟩,X⟩ a h
 obtain⟨Z,J,E,H⟩:=H.b_ 0 rfl c6 X (hl':=O3) rfl
 have f:=f.sub J
 have a8:=a8.sub E
 have H:HZ B0 _ _ O3 _:=H
 refine ae 1 h O λa h=>cz k<|sq<|rg λK k=>ae 1 h O λa h=>sB h F O (aD O O) λed ef F a h=>cN k h [0,1,4,5,6,19] O6 λh=>?_
 refine cI h F O (λdn F=>?_) λdn F=>?_
 refine rg λK k=>s1 h O (lA H 2 bQ aL aA) λa h=>ap h H 1 O O O aL aA O O (by obtain⟨_,_,_,e_⟩:=(f).form;subst e_;rfl) (by simp) aA rfl (hl':=O3) rfl λw H=>?_
 refine cN k h [4] [_] λh=>?_
 cases F
 refine r1 hr h O (aO H 1 bQ aL aA) ⟨_,O,f.sub (H.bD eB 0 O),⟨_,H.hp.get 0 O,a8.sub (H.bD eB 0 O)⟩,H.a_⟩
 refine ag<|ww 0 6 H (λw H=>?_)
 refine cl 0 [6,7] h O (λw H=>an O) kR O (λa h=>?_)
 refine cl 1 [6,7] h O (λw H=>lA H 2 bQ aL aA) kR O (λa h=>?_)
 refine cl 2 [5,6,7] h O (λw H=>an O) kR O (λa h=>?_)
 refine cl 3 [4,5,6,7] h O (λw H=>an O) kR O (λa h=>?_)
 obtain⟨ei,e4,F⟩:=bv F
 refine cl 4 [5,6,7] h O (λw H=>vI e4 (aw O O)) kR O (λa h=>?_)
 obtain⟨e5,f23,F⟩:=bo F
 have e6:=H.sub
 refine oI 5 h O kR (λ_=>H.jF 0) (dt.goes h (dC call39 (ao f23 H.zin a8 (H.hp.get 0 O) (H.dG 0 O _ O) O O (b6 _ H.a_)))) O ?_
 rintro v_ w a ⟨c8,rfl,u,⟨e8,c7,a7⟩,X⟩ h
 obtain⟨Z,J,E,H⟩:=H.b_ 0 rfl c7 X (hl':=O3) rfl
 have e9:=J
 have f:=f.sub J
 have u:=u.sub E
 have a7:=a7.sub E
 have H:HZ B0 _ _ O3 _:=H
 obtain⟨ej,f25,F⟩:=bo F
 refine oI 6 h O kR (λ_=>(H.tJ e9 e6).jF 0) (dt.goes h (dC call23 (lG (x0:=e1.1) (x1:=af.2) (x2:=e5.1) f25 H.zin f u))) O ?_
 rintro v_ w a ⟨cc,rfl,G,X⟩ h
 obtain⟨Z,J,E,H⟩:=H.aP X
 have u:=u.sub J
 have f:=f.sub J
 have a7:=a7.sub J
 have G:=G.sub E
 refine pm 7 h O kR (λhq=>nomatch hq) (gD (ops:=#[]) (ap h H 2 O O O aL aA O O (by obtain⟨_,_,_,e_⟩:=(G).form;subst e_;rfl) (by simp) aA rfl (hl':=O3) rfl λw H=>nR ⟨rfl,H⟩)) rfl ?_
 rintro _ w a H h
 have H:HZ B0 _ _ O3 _:=H
 refine pq (λhq=>nomatch hq) kR ?_
 exact fK (Cp ⟨fq dj F,h.to,H,a7,G⟩)
theorem qR(k:Nat):(∀{x0:List Tk}{u:Int}{E:Int}{F:Int}{x1:Int}{f:(Nd) × (List Tk)}{w0:World}(J:(parse_ring k).1 x0 u E F x1=some f){Z:FZ}(hZ:Z.inn w0){g:Nat}{G:Value}(a1:bx Z G 3 fa x0) (a6:w0.heap[g]?=some (aB [G,I u,I E,I F] 91)) (a7:Z g=none){W:Bs}(eB:W=⟨w0,[g]⟩){Zi:FZ}(eZ:Zi=Z) (hG:jY w0),Calls prog 39 [(pt g),I x1].toArray w0 (bj λv w=>∃X,v=.agg #[I f.1.k,I f.1.op,I f.1.v.k,I f.1.v.n,S f.1.v.s,I f.1.a.c.s,I f.1.a.c.c,I f.1.a.c.r,.bool f.1.a.ac,.bool f.1.a.ar,I f.1.b.c.s,I f.1.b.c.c,I f.1.b.c.r,.bool f.1.b.ac,.bool f.1.b.ar,S f.1.nm,X]/\bi (ZB Zi w0.heap.size w) X aj f.1.l/\(∃H,w.heap[g]?=some (aB [H,I u,I E,I F] 91)/\bx (ZB Zi w0.heap.size w) H 3 fa f.2)/\ExtB W w))/\(∀{x0:List Tk}{u:Int}{E:Int}{F:Int}{f:(Nd) × (List Tk)}{w0:World}(J:(parse_ring k).2 x0 u E F=some f){Z:FZ}(hZ:Z.inn w0){g:Nat}{G:Value}(a1:bx Z G 3 fa x0) (a6:w0.heap[g]?=some (aB [G,I u,I E,I F] 91)) (a7:Z g=none){W:Bs}(eB:W=⟨w0,[g]⟩){Zi:FZ}(eZ:Zi=Z) (hG:jY w0),Calls prog 58 [(pt g)].toArray w0 (bj λv w=>∃X,v=.agg #[I f.1.k,I f.1.op,I f.1.v.k,I f.1.v.n,S f.1.v.s,I f.1.a.c.s,I f.1.a.c.c,I f.1.a.c.r,.bool f.1.a.ac,.bool f.1.a.ar,I f.1.b.c.s,I f.1.b.c.c,I f.1.b.c.r,.bool f.1.b.ac,.bool f.1.b.ar,S f.1.nm,X]/\bi (ZB Zi w0.heap.size w) X aj f.1.l/\(∃H,w.heap[g]?=some (aB [H,I u,I E,I F] 91)/\bx (ZB Zi w0.heap.size w) H 3 fa f.2)/\ExtB W w)):=by
 induction k with
 |zero=>exact⟨λJ=>(nomatch J),λJ=>(nomatch J)⟩
 |succ k Y=>exact⟨@li (parse_ring k).1 @Y.1 (parse_ring k).2 @Y.2,@gM (parse_ring k).1 @Y.1 (parse_ring k).2 @Y.2⟩
end Go.Proofs.YtnllbjchcfpmpaaGreatDoor
