/- Joined texts. -/
import Derived.Test.YtcecjdnkcbfhlaaGreatDoorEM0
import Derived.Test.YtcecjdnkcbfhlaaGreatDoorEU0
import Derived.Test.YtcecjdnkcbfhlaaGreatDoorEWkE
set_option linter.unusedSimpArgs false
set_option linter.unusedVariables false
set_option linter.unusedSectionVars false
namespace Go.Proofs.YtcecjdnkcbfhlaaGreatDoor
open Go.Stp Go.ValP Go.Sp
open _root_.Go.Proofs.Tryz
set_option maxRecDepth 100000
theorem cells_it {pa pb:Nat} {x y:C} {cs:List C} (hS:addr_Cells x y=some cs) {Z:FZ} (ha:Z pa=some (Cel [.int .i64 x.s,.int .i64 x.c,.int .i64 x.r] 28)) (hb:Z pb=some (Cel [.int .i64 y.s,.int .i64 y.c,.int .i64 y.r] 28)) :
 Iter Tryz.prog 112 #[.pointer (some ⟨pa,0,none⟩),.pointer (some ⟨pb,0,none⟩)] cV cs Z:=by
 intro l J hJi hJf hJy E W hE hJ
 have hEi:=hJi _ _ _ hJ
 replace ha:=hE _ _ ha
 replace hb:=hE _ _ hb
 unfold addr_Cells at hS
 have key:Calls Tryz.prog 112 [Value.func (.yield l) #[] #[],.pointer (some ⟨pa,0,none⟩),.pointer (some ⟨pb,0,none⟩)].toArray W (Ret fun _ B=>∃ E',J E' cs B):=by
  refine enG func112 [0,1,2] [_,_,_] fun Q a h hr hn=>?_
  have H:HZ W E E [] W:=HZ.startZ hEi
  refine rg fun K k=>s1 h rfl (v_loadA [_,_,_] rfl A28 Z28 (H.zin _ _ ha) rfl rfl) fun a h=>s1 h rfl (v_loadA [_,_,_] rfl A28 Z28 (H.zin _ _ hb) rfl rfl) fun a h=>sC h H hS rfl (fun y1 f1=>dC call77 (addr_Order_ok f1 :)) fun o hS w X H a h=>?_
  refine cps 4 h rfl fun a h=>zA h H V28 [_,_,_] (fun x=>[x]) fun a p2 w X H h=>?_
  refine zA h H V28 [_,_,_] (fun x=>[_,x]) fun a p3 w X H h=>?_
  refine zS h H 0 Z28 [_,_,_] [_,_,_] [_,_] fun w H=>?_
  refine zS h H 1 Z28 [_,_,_] [_,_,_] [_,_] fun w H=>?_
  refine cps 1 h rfl fun a h=>cz k ?_
  clear k K
  refine sq<|rg fun K k=>cps 1 h rfl fun a h=>s1 h rfl (v_not rfl) fun a h=>cz k ?_
  clear k K
  refine c_cond h rfl (fun e=>?_) (fun e=>?_)
  · have e2:o.2.2=false:=by simpa using e
    rw [if_neg (by rw [e2];exact Bool.false_ne_true)] at hS
    obtain rfl:=so hS
    refine r0 hr h rfl ⟨E,hJf E E [] W w hJ H.out fun b ob hb=>.inl hb⟩
  have e2:o.2.2=true:=by simpa using e
  rw [if_pos e2] at hS
  obtain ⟨⟨⟨b1,b2⟩,b3,b4⟩,hS⟩:=ck hS
  obtain rfl:=so hS
  refine c_skip ?_
  obtain ⟨Z1,hs1,H,h4⟩:=H.freezeB 0 rfl rfl
  obtain ⟨Z2,hs2,H,h5⟩:=H.freezeB 1 rfl rfl
  replace h4:=hs2 _ _ h4
  have hJ2:J Z2 (upL o.1 o.2.1 0 0) w:=hJf E Z2 [] W w hJ H.out fun b ob hb=>by
   rcases H.new b ob hb with q|q|q
   · exact .inl q
   · exact .inr ⟨q,H.zin b ob hb⟩
   · cases q
  clear H hJ hS ha hb hE hEi
  refine rg fun K k=>s1 h rfl (v_fieldAddr rfl U28 rfl Z3 rfl rfl) fun a h=>s1 h rfl (v_load1 rfl A3 (hJi _ _ _ hJ2 _ _ h4) rfl) fun a h=>cps 1 h rfl fun a h=>cz k ?_
  clear k K
  refine lb<|lpJ (fun mu a w=>∃ i:Nat,mu+i=(o.2.1.r-o.1.r+1).toNat∧Fr 42 [(0,.func (.yield l) #[] #[]),(4,.pointer (some ⟨p2,0,none⟩)),(5,.pointer (some ⟨p3,0,none⟩)),(7,.int .i64 (o.1.r+i))] a∧J Z2 (upL o.1 o.2.1 i 0) w) (o.2.1.r-o.1.r+1).toNat ⟨0,by omega,by
   have h':Fr 42 [(0,.func (.yield l) #[] #[]),(4,.pointer (some ⟨p2,0,none⟩)),(5,.pointer (some ⟨p3,0,none⟩)),(7,.int .i64 o.1.r)] _:=h.to
   simpa using h',hJ2⟩ ?_
  clear hJ2 h
  rintro mu a w ⟨i,hi,h,hJ⟩
  refine sq<|rg fun K k=>cps 1 h rfl fun a h=>s1 h rfl (v_fieldAddr rfl U28 rfl Z3 rfl rfl) fun a h=>s1 h rfl (v_load1 rfl A3 (hJi _ _ _ hJ _ _ h5) rfl) fun a h=>s1 h rfl (v_le rfl rfl) fun a h=>cz k ?_
  clear k K
  refine c_cond h rfl (fun e=>?_) (fun e=>?_)
  rotate_left
  · have e1:¬ o.1.r+(i:Int)≤o.2.1.r:=by simpa using e
    refine c_exit (hn _ _ (out0 h rfl ⟨Z2,?_⟩))
    have e3:i=(o.2.1.r-o.1.r+1).toNat:=by omega
    rw [←upL_all,← e3]
    exact hJ
  have e1:o.1.r+(i:Int)≤o.2.1.r:=by simpa using e
  refine c_skip<|sb ?_
  refine rg fun K k=>s1 h rfl (v_fieldAddr rfl U28 rfl Z3 rfl rfl) fun a h=>s1 h rfl (v_load1 rfl A3 (hJi _ _ _ hJ _ _ h4) rfl) fun a h=>cps 1 h rfl fun a h=>cz k ?_
  clear k K
  refine lb<|lpJ (fun mu a w=>∃ j:Nat,mu+j=(o.2.1.c-o.1.c+1).toNat∧Fr 42 [(0,.func (.yield l) #[] #[]),(4,.pointer (some ⟨p2,0,none⟩)),(5,.pointer (some ⟨p3,0,none⟩)),(7,.int .i64 (o.1.r+i)),(8,.int .i64 (o.1.c+j))] a∧J Z2 (upL o.1 o.2.1 i j) w) (o.2.1.c-o.1.c+1).toNat ⟨0,by omega,by
   have h':Fr 42 [(0,.func (.yield l) #[] #[]),(4,.pointer (some ⟨p2,0,none⟩)),(5,.pointer (some ⟨p3,0,none⟩)),(7,.int .i64 (o.1.r+i)),(8,.int .i64 o.1.c)] _:=h.to
   simpa using h',hJ⟩ ?_
  clear hJ h
  rintro mv a w ⟨j,hj,h,hJ⟩
  refine sq<|rg fun K k=>cps 1 h rfl fun a h=>s1 h rfl (v_fieldAddr rfl U28 rfl Z3 rfl rfl) fun a h=>s1 h rfl (v_load1 rfl A3 (hJi _ _ _ hJ _ _ h5) rfl) fun a h=>s1 h rfl (v_le rfl rfl) fun a h=>cz k ?_
  clear k K
  refine c_cond h rfl (fun e=>?_) (fun e=>?_)
  rotate_left
  · have e3:¬ o.1.c+(j:Int)≤o.2.1.c:=by simpa using e
    refine c_exit ?_
    have e4:j=(o.2.1.c-o.1.c+1).toNat:=by omega
    rw [e4,upL_row] at hJ
    refine c_lregion<|cps 1 h rfl fun a h=>s1 h rfl (v_add rfl rfl (wi (by omega))) fun a h=>cps 1 h rfl fun a h=>c_lnil<|⟨mu-1,by omega,i+1,by omega,?_,hJ⟩
    have h':Fr 42 [(0,.func (.yield l) #[] #[]),(4,.pointer (some ⟨p2,0,none⟩)),(5,.pointer (some ⟨p3,0,none⟩)),(7,.int .i64 (o.1.r+i+1))] _:=h.to
    rw [show o.1.r+((i+1:Nat):Int)=o.1.r+i+1 by omega]
    exact h'
  have e3:o.1.c+(j:Int)≤o.2.1.c:=by simpa using e
  refine c_skip<|sb ?_
  refine rgY fun K k=>?_
  refine y1 h rfl (v_move rfl) fun a h=>?_
  refine y1 h rfl (v_fieldAddr rfl U28 rfl Z3 rfl rfl) fun a h=>?_
  refine y1 h rfl (v_load1 rfl A3 (hJi _ _ _ hJ _ _ h4) rfl) fun a h=>?_
  refine y1 h rfl (v_move rfl) fun a h=>?_
  refine y1 h rfl (v_move rfl) fun a h=>?_
  refine y1 h rfl (v_build bld28 [_,_,_] [_,_,_] rfl rfl) fun a h=>?_
  refine yCall h rfl rfl (hJy Z2 _ ⟨o.1.s,o.1.c+j,o.1.r+i⟩ w hJ (by rw [upL_succ];exact upL_prefix (by omega) (by omega))) (fun a w hJ h=>?_)
  refine y1 h rfl (v_not rfl) fun a h=>?_
  refine yNil (k _ _ ?_)
  clear k K
  refine c_cond h rfl (fun e=>nomatch e) (fun _=>?_)
  refine c_skip<|c_lregion<|cps 1 h rfl fun a h=>s1 h rfl (v_add rfl rfl (wi (by omega))) fun a h=>cps 1 h rfl fun a h=>c_lnil ?_
  rw [upL_succ] at hJ
  refine ⟨mv-1,by omega,j+1,by omega,?_,hJ⟩
  have h':Fr 42 [(0,.func (.yield l) #[] #[]),(4,.pointer (some ⟨p2,0,none⟩)),(5,.pointer (some ⟨p3,0,none⟩)),(7,.int .i64 (o.1.r+i)),(8,.int .i64 (o.1.c+j+1))] _:=h.to
  rw [show o.1.c+((j+1:Nat):Int)=o.1.c+j+1 by omega]
  exact h'
 have e0:#[Value.func (.yield l) #[] #[]]++#[Value.pointer (some ⟨pa,0,none⟩),Value.pointer (some ⟨pb,0,none⟩)]=[Value.func (.yield l) #[] #[],.pointer (some ⟨pa,0,none⟩),.pointer (some ⟨pb,0,none⟩)].toArray:=by simp
 rw [e0]
 refine callsIn_wide.2 (key.mono ?_)
 intro e B hq
 cases e with
 |returned v=>exact ⟨⟨v,rfl⟩,hq⟩
 |_=>exact hq.elim
theorem addr_Cells_ok {x y:C} {res:List C} {w0:World} (hS:addr_Cells x y=some res):Calls Tryz.prog 80 [cV x,cV y].toArray w0 (Ret fun v w=>∃ cap,v=.func (.func 112) #[] cap∧Iter Tryz.prog 112 cap cV res (ZB Z0 w0.heap.size w)∧Ext w0 w):=by
 refine enS (Z:=Z0) (fun _ _ h=>nomatch h) func80 [0,1] [_,_] fun Q a Zi eZi H h hr=>?_
 refine rg fun K k=>z_box h H rfl [_,_,_] rfl rfl fun a p1 w X H h=>?_
 have H:HZ w0 _ _ [_] _:=H
 refine z_box h H rfl [_,_,_] rfl rfl fun a p2 w X H h=>?_
 have H:HZ w0 _ _ [_,_] _:=H
 refine cps 1 h rfl fun a h=>cz k ?_
 clear k K
 refine rg fun K k=>?_
 obtain ⟨Z,hsub,H,ha⟩:=H.freezeB 0 rfl rfl
 have H:HZ w0 _ _ [_,_] _:=H
 obtain ⟨Z,hsub2,H,hb⟩:=H.freezeB 1 rfl rfl
 have ha:=hsub2 _ _ ha
 refine s1 h rfl (v_makeFunc [_,_] rfl) fun a h=>cps 1 h rfl fun a h=>cz k ?_
 have hbk:=H.back
 rw [eZi] at hbk
 refine r1 hr h rfl rfl ⟨_,rfl,(cells_it hS ha hb).sub hbk,H.out⟩
end Go.Proofs.YtcecjdnkcbfhlaaGreatDoor
