/- Joined texts. -/
import Derived.Test.YtnllbjchcfpmpaaGreatDoorMU0
import Derived.Test.YtnllbjchcfpmpaaGreatDoorMWkE
set_option linter.all false
namespace Go.Proofs.YtnllbjchcfpmpaaGreatDoor
open Go.Stp Go.ValP Go.Sp
open _root_.Go.Proofs.Tryz
set_option maxRecDepth 100000
theorem yK{pa pb:Nat}{x y:C}{cs:List C}(u:hM x y=some cs){Z:FZ}(ha:Z pa=some (aB [I x.s,I x.c,I x.r] 29)) (F:Z pb=some (aB [I y.s,I y.c,I y.r] 29)) :
 Iter prog 118 #[.pointer (some ⟨pa,0,none⟩),.pointer (some ⟨pb,0,none⟩)] cV cs Z:=by
 intro l J g a1 a7 E W hE f
 have a6:=g _ _ _ f
 replace ha:=hE _ _ ha
 replace F:=hE _ _ F
 unfold hM at u
 have key:Calls prog 118 [Value.func (.yield l) #[] #[],.pointer (some ⟨pa,0,none⟩),.pointer (some ⟨pb,0,none⟩)].toArray W (bj λ_ B=>∃E',J E' cs B):=by
  refine tf func118 [0,1,2] [_,_,_] λQ a h hr hn=>?_
  have H:HZ W E E [] W:=HZ.uO a6
  refine rg λK k=>s1 h O (dL [_,_,_] O iT dm (H.zin _ _ ha) O O) λa h=>s1 h O (dL [_,_,_] O iT dm (H.zin _ _ F) O O) λa h=>sC h H u O (λy1 f1=>dC call68 (mA f1 :)) λo u w X H a h=>?_
  refine ae 4 h O λa h=>zA h H sO [_,_,_] (λx=>[x]) λa Y w X H h=>?_
  refine zA h H sO [_,_,_] (λx=>[_,x]) λa p3 w X H h=>?_
  refine zS h H 0 dm [_,_,_] [_,_,_] [_,_] λw H=>?_
  refine zS h H 1 dm [_,_,_] [_,_,_] [_,_] λw H=>?_
  refine ae 1 h O λa h=>cz k ?_
  clear k K
  refine sq<|rg λK k=>ae 1 h O λa h=>s1 h O (dI O) λa h=>cz k ?_
  clear k K
  refine mF h O (λe=>?_) (λe=>?_)
  · have e2:o.2.2=false:=by simpa using e
    rw[if_neg (by rw[e2];exact Bool.false_ne_true)]at u
    obtain rfl:=so u
    refine r0 hr h O ⟨E,a1 E E [] W w f H.out λb ob F=>.inl F⟩
  have e2:o.2.2=true:=by simpa using e
  rw[if_pos e2]at u
  obtain⟨⟨⟨b1,b2⟩,b3,b4⟩,u⟩:=ck u
  obtain rfl:=so u
  refine ag ?_
  obtain⟨Z1,ad,H,h4⟩:=H.i8 0 rfl rfl
  obtain⟨Z2,a8,H,h5⟩:=H.i8 1 rfl rfl
  replace h4:=a8 _ _ h4
  have G:J Z2 (xu o.1 o.2.1 0 0) w:=a1 E Z2 [] W w f H.out λb ob F=>by
   rcases H.new b ob F with q|q|q
   ·exact .inl q
   ·exact .inr ⟨q,H.zin b ob F⟩
   ·cases q
  clear H f u ha F hE a6
  refine rg λK k=>s1 h O (ab O gH O Z3 O O) λa h=>s1 h O (aE O A3 (g _ _ _ G _ _ h4) O) λa h=>ae 1 h O λa h=>cz k ?_
  clear k K
  refine lb<|ib (λmu a w=>∃i:Nat,mu+i=(o.2.1.r-o.1.r+1).toNat/\Fr 42 [(0,.func (.yield l) #[] #[]),(4,.pointer (some ⟨Y,0,none⟩)),(5,.pointer (some ⟨p3,0,none⟩)),(7,I (o.1.r+i))] a/\J Z2 (xu o.1 o.2.1 i 0) w) (o.2.1.r-o.1.r+1).toNat ⟨0,by omega,by
   have h':Fr 42 [(0,.func (.yield l) #[] #[]),(4,.pointer (some ⟨Y,0,none⟩)),(5,.pointer (some ⟨p3,0,none⟩)),(7,I o.1.r)] _:=h.to
   simpa using h',G⟩ ?_
  clear G h
  rintro mu a w ⟨i,hi,h,f⟩
  refine sq<|rg λK k=>ae 1 h O λa h=>s1 h O (ab O gH O Z3 O O) λa h=>s1 h O (aE O A3 (g _ _ _ f _ _ h5) O) λa h=>s1 h O (jX O O) λa h=>cz k ?_
  clear k K
  refine mF h O (λe=>?_) (λe=>?_)
  rotate_left
  · have e1:¬o.1.r+(i:Int)<=o.2.1.r:=by simpa using e
    refine aR (hn _ _ (Cw h O ⟨Z2,?_⟩))
    have e3:i=(o.2.1.r-o.1.r+1).toNat:=by omega
    rw[<-Ai,<- e3]
    exact f
  have e1:o.1.r+(i:Int)<=o.2.1.r:=by simpa using e
  refine ag<|sb ?_
  refine rg λK k=>s1 h O (ab O gH O Z3 O O) λa h=>s1 h O (aE O A3 (g _ _ _ f _ _ h4) O) λa h=>ae 1 h O λa h=>cz k ?_
  clear k K
  refine lb<|ib (λmu a w=>∃j:Nat,mu+j=(o.2.1.c-o.1.c+1).toNat/\Fr 42 [(0,.func (.yield l) #[] #[]),(4,.pointer (some ⟨Y,0,none⟩)),(5,.pointer (some ⟨p3,0,none⟩)),(7,I (o.1.r+i)),(8,I (o.1.c+j))] a/\J Z2 (xu o.1 o.2.1 i j) w) (o.2.1.c-o.1.c+1).toNat ⟨0,by omega,by
   have h':Fr 42 [(0,.func (.yield l) #[] #[]),(4,.pointer (some ⟨Y,0,none⟩)),(5,.pointer (some ⟨p3,0,none⟩)),(7,I (o.1.r+i)),(8,I o.1.c)] _:=h.to
   simpa using h',f⟩ ?_
  clear f h
  rintro mv a w ⟨j,hj,h,f⟩
  refine sq<|rg λK k=>ae 1 h O λa h=>s1 h O (ab O gH O Z3 O O) λa h=>s1 h O (aE O A3 (g _ _ _ f _ _ h5) O) λa h=>s1 h O (jX O O) λa h=>cz k ?_
  clear k K
  refine mF h O (λe=>?_) (λe=>?_)
  rotate_left
  · have e3:¬o.1.c+(j:Int)<=o.2.1.c:=by simpa using e
    refine aR ?_
    have e4:j=(o.2.1.c-o.1.c+1).toNat:=by omega
    rw[e4,Ba]at f
    refine ah<|ae 1 h O λa h=>s1 h O (BX O O (wi (by omega))) λa h=>ae 1 h rfl λa h=>am<|⟨mu-1,by omega,i+1,by omega,?_,f⟩
    have h':Fr 42 [(0,.func (.yield l) #[] #[]),(4,.pointer (some ⟨Y,0,none⟩)),(5,.pointer (some ⟨p3,0,none⟩)),(7,I (o.1.r+i+1))] _:=h.to
    rw[show o.1.r+((i+1:Nat):Int)=o.1.r+i+1 by omega]
    exact h'
  have e3:o.1.c+(j:Int)<=o.2.1.c:=by simpa using e
  refine ag<|sb ?_
  refine E7 λK k=>?_
  refine y1 h O (an O) λa h=>?_
  refine y1 h O (ab O gH O Z3 O O) λa h=>?_
  refine y1 h O (aE O A3 (g _ _ _ f _ _ h4) O) λa h=>?_
  refine y1 h O (an O) λa h=>?_
  refine y1 h O (an O) λa h=>?_
  refine y1 h O (aS kY [_,_,_] [_,_,_] O O) λa h=>?_
  refine DV h O O (a7 Z2 _ ⟨o.1.s,o.1.c+j,o.1.r+i⟩ w f (by rw[th];exact vl (by omega) (by omega))) (λa w f h=>?_)
  refine y1 h O (dI O) λa h=>?_
  refine ER (k _ _ ?_)
  clear k K
  refine mF h O (λe=>nomatch e) (λ_=>?_)
  refine ag<|ah<|ae 1 h O λa h=>s1 h O (BX O O (wi (by omega))) λa h=>ae 1 h rfl λa h=>am ?_
  rw[th]at f
  refine⟨mv-1,by omega,j+1,by omega,?_,f⟩
  have h':Fr 42 [(0,.func (.yield l) #[] #[]),(4,.pointer (some ⟨Y,0,none⟩)),(5,.pointer (some ⟨p3,0,none⟩)),(7,I (o.1.r+i)),(8,I (o.1.c+j+1))] _:=h.to
  rw[show o.1.c+((j+1:Nat):Int)=o.1.c+j+1 by omega]
  exact h'
 have e0:#[Value.func (.yield l) #[] #[]]++#[Value.pointer (some ⟨pa,0,none⟩),Value.pointer (some ⟨pb,0,none⟩)]=[Value.func (.yield l) #[] #[],.pointer (some ⟨pa,0,none⟩),.pointer (some ⟨pb,0,none⟩)].toArray:=by simp
 rw[e0]
 refine callsIn_wide.2 (key.mono ?_)
 intro e B hq
 cases e with
 |returned v=>exact⟨⟨v,O⟩,hq⟩
 |_=>exact hq.elim
theorem qy{x y:C}{g:List C}{w0:World}(W:hM x y=some g):Calls prog 78 [cV x,cV y].toArray w0 (bj λv w=>∃u,v=.func (.func 118) #[] u/\Iter prog 118 u cV g (ZB Z0 w0.heap.size w)/\Ext w0 w):=by
 refine o6 (Z:=Z0) (λ_ _ h=>nomatch h) func78 [0,1] [_,_] λQ a Zi F H h Y=>?_
 refine rg λK k=>aZ h H O [_,_,_] O O λa p1 w X H h=>?_
 have H:HZ w0 _ _ [_] _:=H
 refine aZ h H O [_,_,_] O O λa p2 w X H h=>?_
 have H:HZ w0 _ _ [_,_] _:=H
 refine ae 1 h O λa h=>cz k ?_
 clear k K
 refine rg λK k=>?_
 obtain⟨Z,J,H,G⟩:=H.i8 0 rfl rfl
 have H:HZ w0 _ _ [_,_] _:=H
 obtain⟨Z,f,H,hb⟩:=H.i8 1 rfl rfl
 have G:=f _ _ G
 refine s1 h O (kO [_,_] O) λa h=>ae 1 h O λa h=>cz k ?_
 have E:=H.back
 rw[F]at E
 refine r1 Y h O O ⟨_,O,(yK W G hb).sub E,H.out⟩
end Go.Proofs.YtnllbjchcfpmpaaGreatDoor
