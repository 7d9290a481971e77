/- Joined texts. -/
import Derived.Lib.ItoaNum
import Derived.Laws.RangeAny
import Derived.Lib.SplitLaws
import Derived.Test.YtcecjdnkcbfhlaaGreatDoorEL0
import Derived.Test.YtcecjdnkcbfhlaaGreatDoorES0
import Derived.Test.YtcecjdnkcbfhlaaGreatDoorEU0
set_option linter.unusedSimpArgs false
set_option linter.unusedVariables false
set_option linter.unusedSectionVars false
section
namespace Go.Sp
theorem fA {p:Prop} (h:p:=by first|trivial|assumption|omega|(simp only;omega)|(simp only;assumption)|(simp;omega)|(simp;done)):p:=h
theorem fB {p:Prop} (h:p:=by first|trivial|assumption|omega|(simp only;omega)):p:=h
theorem fC {p:Prop} (h:p:=by first|omega|decide|(simp;omega)|(simp;done)):p:=h
theorem fD {p:Prop} (h:p:=by first|(simp only;omega)|(simp;omega)|(simp;done)):p:=h
theorem fE {p:Prop} (h:p:=by first|trivial|omega|(simp only;omega)|(simp only;refine ⟨by omega,?_⟩;first|assumption|omega)|(simp;omega)|(simp;done)):p:=h
theorem oM {p:Prop} (h:p:=by omega):p:=h
theorem BL:(∀ (p:Prop) [Decidable p],(decide p=true)=p)∧(∀ (p:Prop) [Decidable p],(decide p=false)↔¬p)∧(∀ a b:Bool,((a||b)=true)=(a=true∨b=true))∧(∀ a b:Bool,((a&&b)=true)=(a=true∧b=true))∧(∀ a b:Bool,((a||b)=false)↔a=false∧b=false)∧(∀ a b:Bool,((a&&b)=false)↔a=false∨b=false)∧(∀ b:Bool,((!b)=true)↔b=false)∧(∀ b:Bool,((!b)=false)↔b=true)∧(∀ a b:Bool,((!a)=b)↔a=!b)∧((!true)=false)∧((!false)=true)∧(∀ (α:Type) (a b:α),(a≠b)=¬ (a=b))∧(∀ (p:Prop) [Decidable p] [Decidable (¬ p)],decide (¬ p)=!decide p):=
  ⟨fun p _=>decide_eq_true_eq,fun p _=>decide_eq_false_iff_not,fun a b=>by cases a<;>cases b<;>simp,fun a b=>by cases a<;>cases b<;>simp,fun a b=>by cases a<;>cases b<;>simp,fun a b=>by cases a<;>cases b<;>simp,fun b=>by cases b<;>simp,fun b=>by cases b<;>simp,fun a b=>by cases a<;>cases b<;>simp,rfl,rfl,fun _ _ _=>rfl,fun p _ _=>decide_not⟩
theorem dT {p:Prop} [Decidable p]:(decide p=true)=p:=decide_eq_true_eq
theorem dF {p:Prop} [Decidable p]:(decide p=false)↔¬ p:=decide_eq_false_iff_not
theorem bA (a b:Bool):((a&&b)=true)=(a=true∧b=true):=Bool.and_eq_true a b
open Go.Stp
section
variable {α β σ ρ:Type}
def Ok (x:Option α) (P:α→Prop):Prop:=∃ v,x=some v∧P v
theorem Ok.bv {x:α} {f:α→Option β} {P:β→Prop} (h:∀ z,z=x→Ok (f z) P):Ok (bindv x f) P:=h x rfl
theorem Ok.ck {p:Prop} [Decidable p] {A:Option β} {P:β→Prop} (hp:p) (h:Ok A P):Ok (chk p A) P:=by
 unfold chk
 rw [if_pos hp]
 exact h
theorem Ok.ckf {p:Prop} [Decidable p] {A:Option β} {P:β→Prop} (hp:p) (h:p→Ok A P):Ok (chk p A) P:=Ok.ck hp (h hp)
theorem Ok.ob {x:Option α} {f:α→Option β} {P:β→Prop} {R:α→Prop} (h:Ok x R) (k:∀ y,x=some y→R y→Ok (f y) P):Ok (obind x f) P:=by
 obtain ⟨y,hy,hr⟩:=h
 have:=k y hy hr
 rw [hy]
 exact this
theorem Ok.os {v:α} {f:α→Option β} {P:β→Prop} (k:∀ y,y=v→Ok (f y) P):Ok (obind (some v) f) P:=k v rfl
theorem Ok.it {b:Bool} {A B:Option β} {P:β→Prop} (h1:b=true→Ok A P) (h2:b=false→Ok B P):Ok (if b=true then A else B) P:=by
 cases b with
 |true=>rw [if_pos rfl];exact h1 rfl
 |false=>rw [if_neg Bool.false_ne_true];exact h2 rfl
theorem Ok.sm {v:β} {P:β→Prop} (h:P v):Ok (some v) P:=⟨v,rfl,h⟩
theorem Ok.mono {x:Option α} {P R:α→Prop} (h:Ok x P) (k:∀ v,P v→R v):Ok x R:=by
 obtain ⟨v,h1,h2⟩:=h
 exact ⟨v,h1,k v h2⟩
theorem Ok.of {x:Option α} {v:α} {P:α→Prop} (h:x=some v) (hp:P v):Ok x P:=⟨v,h,hp⟩
theorem Ok.lpk {B:(σ→Option ρ)→σ→Option ρ} {P:ρ→Prop} (I:σ→Prop) (μ:σ→Nat) (step:∀ s,I s→∀ next:σ→Option ρ,(∀ s',I s'→μ s'<μ s→Ok (next s') P)→Ok (B next s) P):∀ (K:Nat) (s:σ),I s→μ s<K→Ok (loopF B K s) P
 |0,s,_,h=>oM
 |K+1,s,hI,h=>step s hI (loopF B K) fun s' hI' hm=>Ok.lpk I μ step K s' hI' oM
theorem Ok.lp {B:(σ→Option ρ)→σ→Option ρ} {P:ρ→Prop} (I:σ→Prop) (μ:σ→Nat) {s:σ} (h0:I s) (hm:μ s<1208925819614629174706176) (step:∀ s,I s→∀ next:σ→Option ρ,(∀ s',I s'→μ s'<μ s→Ok (next s') P)→Ok (B next s) P):Ok (loopF B KK s) P:=
 Ok.lpk I μ step KK s h0 (by unfold KK;omega)
end
theorem wI64 {z E:Int} (e:z=IntKind.wrap .i64 E):(-9223372036854775808≤z∧z≤9223372036854775807)∧(-9223372036854775808≤E∧E≤9223372036854775807→z=E):=by
 simp [IntKind.wrap,IntKind.bits,IntKind.signed] at e
 split at e<;>omega
theorem wU64 {z E:Int} (e:z=IntKind.wrap .u64 E):(0≤z∧z≤18446744073709551615)∧(0≤E∧E≤18446744073709551615→z=E):=by
 simp [IntKind.wrap,IntKind.bits,IntKind.signed] at e
 omega
theorem wU8 {z E:Int} (e:z=IntKind.wrap .u8 E):(0≤z∧z≤255)∧(0≤E∧E≤255→z=E):=by
 simp [IntKind.wrap,IntKind.bits,IntKind.signed] at e
 omega
theorem tmod_bd (a:Int) {c:Int} (hc:0<c):-c<a.tmod c∧a.tmod c<c∧a=c*a.tdiv c+a.tmod c∧(0≤a→0≤a.tmod c)∧(a≤0→a.tmod c≤0):=by
 refine ⟨?_,Int.tmod_lt_of_pos a hc,(Int.mul_tdiv_add_tmod a c).symm,fun h=>Int.tmod_nonneg c h,fun h=>?_⟩
 · have:=Int.lt_tmod_of_pos a hc
   omega
 · have:=Int.tmod_nonneg c (show 0≤-a by omega)
   rw [Int.neg_tmod] at this
   omega
theorem gel_mem {α:Type} [Inhabited α] {l:List α} {i:Int} (h:0≤i∧i<(l.length:Int)):gel l i∈l:=List.mem_of_getElem? (gel_some h)
theorem gelP {α:Type} [Inhabited α] {l:List α} {i:Int} {z:α} {P:α→Prop} (h:∀ x∈l,P x) (e:z=gel l i) (hi:0≤i∧i<(l.length:Int)):P z:=by
 rw [e]
 exact h _ (gel_mem hi)
end Go.Sp
end
section
namespace Go.Sp
open Go.Stp Go.ValP
theorem KKs:KK=(KK-1)+1:=by
 have:0<KK:=by unfold KK;omega
 omega
theorem ev_step (k:Nat) (r:Rn) (n:Nd) (m:List (C × Bool)):eval_run_eval (k+1) r n m=eval_run_eval_B (eval_run_eval k) r n m:=rfl
abbrev r0:Rf:=⟨⟨0,0,0⟩,false,false⟩
theorem ev_lit (k:Nat) (R:Rn) (v:V) (m:List (C × Bool)):eval_run_eval (k+1) R ⟨1,0,v,r0,r0,[],[]⟩ m=some (⟨v,R.c⟩,m):=by
 rw [ev_step]
 simp [eval_run_eval_B,bindv,obind,eval_run_made]
theorem ev_fun (k:Nat) (R:Rn) (op:Int) (v:V) (a b:Rf) (nm:List UInt8) (l:List Nd) (m:List (C × Bool)) (hop:op≤5):eval_run_eval (k+1) R ⟨8,op,v,a,b,nm,l⟩ m=obind (eval_run_lazy (eval_run_eval k) R ⟨8,op,v,a,b,nm,l⟩ m) fun y=>some (y.1,y.2):=by
 rw [ev_step]
 simp [eval_run_eval_B,bindv,hop]
theorem apply_eq (op:Int) (l:List Nd) (hl:l.length≤4000):tree_Apply op l=some ⟨8,op,⟨0,0,[]⟩,r0,r0,[],l⟩:=by
 unfold tree_Apply
 simp only [chk,bindv,List.nil_append,List.length_nil,Nat.zero_add]
 rw [if_pos oM]
end Go.Sp
end
section
namespace Go.Sp
open Go.Stp Go.ValP
theorem bitLen_bd {x:Nat} (h:x<18446744073709551616) (h0:x≠0):1≤Lib.bitLen x∧Lib.bitLen x≤64∧2 ^ (Lib.bitLen x-1)≤x∧x<2 ^ Lib.bitLen x:=by
 obtain ⟨h1,h2,h3⟩:=Lib.bitLenAux_bounds 64 x h h0
 exact ⟨h1,Lib.bitLen_le x 64 (Nat.le_refl _) h,h2,h3⟩
theorem shl_norm {y z:Int} (h:0<y∧y≤18446744073709551615) (e:z=shlI .u64 y (64-(Lib.bitLen y.toNat:Int))):9223372036854775808≤z∧z≤18446744073709551615:=by
 obtain ⟨Y,rfl⟩:=Int.eq_ofNat_of_zero_le (show 0≤y by omega)
 obtain ⟨b1,b2,b3,b4⟩:=bitLen_bd (x:=Y) oM oM
 rw [Int.toNat_natCast] at e
 generalize Lib.bitLen Y=b at *
 have e2:min (64-(b:Int)).toNat (IntKind.u64.bits)=64-b:=by
  have:IntKind.u64.bits=64:=rfl
  rw [this]
  omega
 unfold shlI at e
 rw [e2] at e
 have e3:(2:Nat) ^ (b-1)*2 ^ (64-b)=2 ^ 63:=by rw [←Nat.pow_add];congr 1;omega
 have e4:(2:Nat) ^ b*2 ^ (64-b)=2 ^ 64:=by rw [←Nat.pow_add];congr 1;omega
 have h5:2 ^ 63≤Y*2 ^ (64-b):=by rw [←e3];exact Nat.mul_le_mul_right _ b3
 have h6:Y*2 ^ (64-b)<2 ^ 64:=by rw [←e4];exact Nat.mul_lt_mul_of_pos_right b4 (Nat.pow_pos (by decide))
 have e7:((Y:Int)*2 ^ (64-b))=((Y*2 ^ (64-b):Nat):Int):=by simp
 rw [e7] at e
 have w:=wU64 e
 have:=w.2 oM
 omega
theorem shr32 {z x:Int} (h:0≤x) (e:z=shrI .u64 x 32):z=x / 4294967296:=by
 subst e
 unfold shrI
 have:min (32:Int).toNat (IntKind.u64.bits)=32:=rfl
 rw [this,Int.fdiv_eq_ediv_of_nonneg _ (by decide)]
 rfl
theorem shr_nn {z x q:Int} (h:0≤x∧x≤18446744073709551615) (e:z=shrI .u64 x q):0≤z∧z≤18446744073709551615:=by
 subst e
 unfold shrI
 have hp:(0:Int)<2 ^ (min q.toNat (IntKind.u64.bits)):=Int.pow_pos (by decide)
 rw [Int.fdiv_eq_ediv_of_nonneg _ oM]
 refine ⟨Int.ediv_nonneg h.1 oM,Int.le_trans (Int.ediv_le_self _ h.1) h.2⟩
theorem bits_Div64_tot (x0 x1 x2:Int) (h0:0≤x0∧x0<x2) (h1:0≤x1∧x1≤18446744073709551615) (h2:x2≤18446744073709551615) :
 Ok (bits_Div64 x0 x1 x2) (fun r=>(0≤r.1∧r.1≤18446744073709551615)∧0≤r.2∧r.2≤18446744073709551615):=by
 unfold bits_Div64
 refine Ok.bv fun J2 eJ2=>Ok.bv fun z0 ez0=>Ok.it (fun e=>?_) (fun _=>?_)
 · rw [ez0] at e;simp at e;omega
 rw [eJ2]
 refine Ok.bv fun J4 eJ4=>Ok.bv fun z1 ez1=>Ok.it (fun e=>?_) (fun _=>?_)
 · rw [ez1] at e;simp at e;omega
 rw [eJ4]
 refine Ok.bv fun z2 ez2=>Ok.it (fun e=>?_) (fun e=>?_)
 · refine Ok.ck oM (Ok.bv fun q eq=>Ok.ck oM (Ok.bv fun r er=>Ok.sm ?_))
   have:=wU64 eq
   have t:=tmod_bd x1 (c:=x2) oM
   have:=t.2.2.2.1 h1.1
   exact ⟨(wU64 eq).1,oM⟩
 refine Ok.ck oM (Ok.bv fun s es=>Ok.bv fun s' es'=>?_)
 obtain ⟨b1,b2,b3,b4⟩:=bitLen_bd (x:=x2.toNat) oM oM
 have w:=wU64 es'
 have hs:s'=64-(Lib.bitLen x2.toNat:Int):=by rw [w.2 oM,es]
 refine Ok.ck oM (Ok.bv fun y ey=>Ok.ck (by decide) (Ok.bv fun yn1 eyn1=>Ok.bv fun yn0 eyn0=>Ok.ck oM (Ok.bv fun z46 e46=>Ok.bv fun z49 e49=>?_)))
 rw [hs] at ey
 have hy:=shl_norm oM ey
 have hyn1:=shr32 oM eyn1
 have w49:=wU64 e49
 have h49:=w49.2 oM
 refine Ok.ck oM (Ok.bv fun z50 e50=>Ok.bv fun un32 e51=>Ok.ck oM (Ok.bv fun un10 e54=>Ok.ck (by decide) (Ok.bv fun un1 e56=>Ok.bv fun un0 e58=>Ok.ck oM (Ok.bv fun q1 eq1=>Ok.bv fun z65 e65=>Ok.bv fun rh erh=>?_))))
 refine Ok.bv fun J37 eJ37=>?_
 have hJ:∀ q,Ok (J37 q) (fun r=>(0≤r.1∧r.1≤18446744073709551615)∧0≤r.2∧r.2≤18446744073709551615):=by
  intro q
  rw [eJ37]
  refine Ok.bv fun z87 e87=>Ok.bv fun z89 e89=>Ok.bv fun z92 e92=>Ok.bv fun z93 e93=>Ok.ck oM (Ok.bv fun q0 eq0=>Ok.bv fun z100 e100=>Ok.bv fun rh2 erh2=>Ok.bv fun J47 eJ47=>?_)
  have hJ2:∀ q',Ok (J47 q') (fun r=>(0≤r.1∧r.1≤18446744073709551615)∧0≤r.2∧r.2≤18446744073709551615):=by
   intro q'
   rw [eJ47]
   refine Ok.bv fun a1 ea1=>Ok.bv fun a2 ea2=>Ok.bv fun a3 ea3=>Ok.bv fun a4 ea4=>Ok.bv fun a5 ea5=>Ok.bv fun a6 ea6=>Ok.ck oM (Ok.bv fun a7 ea7=>Ok.sm ⟨(wU64 ea2).1,shr_nn (wU64 ea6).1 ea7⟩)
  refine Ok.bv fun B eB=>?_
  subst eB
  refine Ok.lp (fun s=>0≤s.1∧s.1≤18446744073709551615) (fun s=>if s.1<4294967296 then (4294967296-s.1).toNat else 4294967297) (wU64 erh2).1 (by have:=(wU64 erh2).1;simp only;split<;>omega) fun s hI next ih=>?_
  refine Ok.bv fun c1 ec1=>Ok.bv fun c2 ec2=>Ok.bv fun c3 ec3=>Ok.bv fun c4 ec4=>Ok.bv fun c5 ec5=>Ok.bv fun c6 ec6=>Ok.it (fun _=>?_) (fun _=>hJ2 _)
  refine Ok.bv fun d1 ed1=>Ok.bv fun d2 ed2=>Ok.bv fun d3 ed3=>Ok.it (fun _=>hJ2 _) (fun e=>?_)
  rw [ed3] at e
  simp at e
  have wd:=wU64 ed2
  refine ih _ wd.1 ?_
  simp only
  rw [if_pos e]
  split
  · have:=wd.2 oM;omega
  · omega
 refine Ok.bv fun B eB=>?_
 subst eB
 refine Ok.lp (fun s=>0≤s.2∧s.2≤18446744073709551615) (fun s=>if s.2<4294967296 then (4294967296-s.2).toNat else 4294967297) (wU64 erh).1 (by have:=(wU64 erh).1;simp only;split<;>omega) fun s hI next ih=>?_
 refine Ok.bv fun c1 ec1=>Ok.bv fun c2 ec2=>Ok.bv fun c3 ec3=>Ok.bv fun c4 ec4=>Ok.bv fun c5 ec5=>Ok.bv fun c6 ec6=>Ok.it (fun _=>?_) (fun _=>hJ _)
 refine Ok.bv fun d1 ed1=>Ok.bv fun d2 ed2=>Ok.bv fun d3 ed3=>Ok.it (fun _=>hJ _) (fun e=>?_)
 rw [ed3] at e
 simp at e
 have wd:=wU64 ed2
 refine ih _ wd.1 ?_
 simp only
 rw [if_pos e]
 split
 · have:=wd.2 oM;omega
 · omega
end Go.Sp
end
section
namespace Go.Sp
open Go.Stp Go.ValP
theorem width1 (s:ByteArray) (pos:Nat) (h:pos<s.size):1≤(Utf8.decode s pos).2:=by
 by_cases ha:(s[pos]'h).toNat<128
 · rw [Go.decode_ascii s pos h ha]
   exact Nat.le_refl _
 · exact (Go.decode_high s pos h oM).2
theorem nextP_gt {l:List UInt8} {p:Nat} (h:p<l.length):p<nextP l p:=by
 unfold nextP
 rw [if_pos h]
 have:=width1 ⟨l.toArray⟩ p h
 omega
theorem num_abs_tot {x:Int} (h:-9223372036854775808≤x∧x≤9223372036854775807):Ok (num_abs x) (fun y=>(x<0→y=-x)∧(0≤x→y=x)):=by
 unfold num_abs
 refine Ok.bv fun z ez=>Ok.it (fun e=>Ok.bv fun a ea=>Ok.bv fun b eb=>Ok.sm ?_) (fun e=>Ok.bv fun a ea=>Ok.sm ?_)
 · simp [ez] at e
   have wb:=wU64 eb
   simp [IntKind.wrap,IntKind.bits,IntKind.signed] at ea eb
   omega
 · simp [ez] at e
   have:=(wU64 ea).2
   omega
theorem num_signed_tot {x:Int} {b:Bool} (h:0≤x∧x≤18446744073709551615):Ok (num_signed x b) (fun r=>-9223372036854775807≤r.1∧r.1≤9223372036854775807):=by
 unfold num_signed
 refine Ok.bv fun z ez=>Ok.it (fun e=>Ok.sm ⟨by decide,by decide⟩) (fun e=>?_)
 simp [ez] at e
 refine Ok.it (fun _=>Ok.bv fun a ea=>Ok.bv fun c ec=>Ok.sm ?_) (fun _=>Ok.bv fun a ea=>Ok.sm ?_)
 · have h1:=(wI64 ea).2 oM
   have h2:=(wI64 ec).2 oM
   simp only
   omega
 · have h1:=(wI64 ea).2 oM
   simp only
   omega
theorem num_Add_tot (x y:Int):Ok (num_Add x y) (fun r=>r.2=true→-9223372036854775807≤r.1∧r.1≤9223372036854775807):=by
 unfold num_Add num_fits
 refine Ok.bv fun z ez=>Ok.ob (R:=fun b=>b=true→-9223372036854775807≤z) (Ok.bv fun c ec=>Ok.sm fun e=>by simp [ec] at e;exact e) fun b eb hb=>Ok.bv fun z1 e1=>Ok.bv fun z2 e2=>Ok.bv fun z3 e3=>Ok.bv fun z4 e4=>Ok.sm fun e=>?_
 simp only at e
 rw [e4] at e
 simp at e
 exact ⟨hb e.1,(wI64 ez).1.2⟩
theorem num_Sub_tot (x y:Int):Ok (num_Sub x y) (fun r=>r.2=true→-9223372036854775807≤r.1∧r.1≤9223372036854775807):=by
 unfold num_Sub
 exact Ok.bv fun z ez=>Ok.ob (num_Add_tot x z) fun b eb hb=>Ok.sm hb
theorem num_scaled_tot {x y c:Int} (hx:0≤x∧x≤18446744073709551615) (hy:0≤y∧y≤18446744073709551615) (hc:0<c∧c≤18446744073709551615) :
 Ok (num_scaled x y c) (fun r=>0≤r.1∧r.1≤18446744073709551615):=by
 unfold num_scaled
 refine Ok.ck ⟨hx,hy⟩ (Ok.bv fun z ez=>Ok.bv fun b eb=>Ok.it (fun _=>Ok.sm ⟨by decide,by decide⟩) (fun e=>?_))
 simp [eb] at e
 have h1:0≤z.1:=by rw [ez];exact Int.ediv_nonneg (Int.mul_nonneg hx.1 hy.1) (by decide)
 have h2:0≤z.2∧z.2≤18446744073709551615:=by rw [ez];simp only;omega
 refine Ok.ob (bits_Div64_tot z.1 z.2 c ⟨h1,e⟩ h2 hc.2) fun r er hr=>Ok.bv fun J eJ=>?_
 have hJ:∀ s,0≤s∧s≤18446744073709551615→Ok (J s) (fun r=>0≤r.1∧r.1≤18446744073709551615):=by
  intro s hs
  rw [eJ]
  exact Ok.bv fun _ _=>Ok.bv fun _ _=>Ok.bv fun _ _=>Ok.bv fun _ _=>Ok.sm hs
 exact Ok.bv fun _ _=>Ok.bv fun _ _=>Ok.it (fun _=>Ok.bv fun q eq=>hJ q (wU64 eq).1) (fun _=>hJ _ hr.1)
theorem num_Mul_tot {x y:Int} (hx:-9223372036854775808≤x∧x≤9223372036854775807) (hy:-9223372036854775808≤y∧y≤9223372036854775807):Ok (num_Mul x y) (fun r=>-9223372036854775807≤r.1∧r.1≤9223372036854775807):=by
 unfold num_Mul
 refine Ok.ob (num_abs_tot hx) fun a ea ha=>Ok.ob (num_abs_tot hy) fun b eb hb=>Ok.ob (num_scaled_tot oM oM ⟨by decide,by decide⟩) fun r er hr=>Ok.bv fun z ez=>Ok.it (fun _=>Ok.sm ⟨by decide,by decide⟩) (fun _=>?_)
 exact Ok.bv fun _ _=>Ok.bv fun _ _=>Ok.bv fun _ _=>Ok.ob (num_signed_tot hr) fun q eq hq=>Ok.sm hq
theorem num_Quo_tot {x y:Int} (hx:-9223372036854775808≤x∧x≤9223372036854775807) (hy:-9223372036854775808≤y∧y≤9223372036854775807):Ok (num_Quo x y) (fun r=>-9223372036854775807≤r.1∧r.1≤9223372036854775807):=by
 unfold num_Quo
 refine Ok.bv fun z ez=>Ok.it (fun _=>Ok.sm ⟨by decide,by decide⟩) (fun e=>?_)
 simp [ez] at e
 refine Ok.ob (num_abs_tot hx) fun a ea ha=>Ok.ob (num_abs_tot hy) fun b eb hb=>Ok.ob (num_scaled_tot oM ⟨by decide,by decide⟩ oM) fun r er hr=>Ok.bv fun z ez=>Ok.it (fun _=>Ok.sm ⟨by decide,by decide⟩) (fun _=>?_)
 exact Ok.bv fun _ _=>Ok.bv fun _ _=>Ok.bv fun _ _=>Ok.ob (num_signed_tot hr) fun q eq hq=>Ok.sm hq
theorem num_Parse_tot (t:List UInt8) (ht:t.length≤9223372036854775807):Ok (num_Parse t) (fun r=>-9223372036854775807≤r.1∧r.1≤9223372036854775807):=by
 unfold num_Parse
 refine Ok.bv fun J2 eJ2=>Ok.bv fun B eB=>?_
 have hJ2:∀ s:Int × Int × Int,0≤s.1∧s.1≤18446744073709551615→Ok (J2 s) (fun r=>-9223372036854775807≤r.1∧r.1≤9223372036854775807):=by
  intro s hs
  rw [eJ2]
  refine Ok.bv fun J4 eJ4=>Ok.bv fun m em=>Ok.bv fun B eB=>?_
  have hJ4:∀ v:Int,0≤v∧v≤18446744073709551615→Ok (J4 v) (fun r=>-9223372036854775807≤r.1∧r.1≤9223372036854775807):=by
   intro v hv
   rw [eJ4]
   exact Ok.bv fun _ _=>Ok.bv fun _ _=>Ok.bv fun _ _=>Ok.it (fun _=>Ok.sm ⟨by decide,by decide⟩) (fun _=>Ok.ob (num_signed_tot hv) fun q eq hq=>Ok.sm hq)
  subst eB
  refine Ok.lp (fun s=>(0≤s.1∧s.1≤18446744073709551615)∧0≤s.2) (fun s=>(6-s.2).toNat) ⟨hs,by simp only;omega⟩ (by simp only;omega) fun s hI next ih=>?_
  refine Ok.bv fun c ec=>Ok.it (fun e=>?_) (fun _=>hJ4 _ hI.1)
  simp [ec] at e
  refine Ok.ck ⟨hI.1,by decide,by decide⟩ (Ok.bv fun q eq=>Ok.bv fun _ _=>Ok.it (fun _=>Ok.sm ⟨by decide,by decide⟩) (fun _=>Ok.bv fun i ei=>?_))
  have hi:=(wI64 ei).2 oM
  refine ih _ ⟨by rw [eq];simp only;omega,by simp only;omega⟩ (by simp only;omega)
 subst eB
 refine Ok.lp (fun s=>0≤s.1∧s.1≤18446744073709551615) (fun s=>t.length-s.2.2.2) ⟨by decide,by decide⟩ (by simp only;omega) fun s hI next ih=>?_
 refine Ok.bv fun c ec=>Ok.it (fun e=>?_) (fun _=>hJ2 _ hI)
 rw [ec,dT] at e
 have hn:=nextP_gt e
 refine Ok.bv fun J eJ=>?_
 have hJ:∀ s',Ok (J s') (fun r=>-9223372036854775807≤r.1∧r.1≤9223372036854775807):=by
  intro s'
  rw [eJ]
  refine Ok.ck ⟨hI,by decide,by decide⟩ (Ok.bv fun q eq=>Ok.bv fun d ed=>Ok.bv fun f ef=>Ok.ck ⟨?_,?_,by decide,by decide⟩ (Ok.bv fun g eg=>Ok.bv fun _ _=>Ok.bv fun _ _=>Ok.it (fun _=>Ok.sm ⟨by decide,by decide⟩) (fun _=>Ok.bv fun i ei=>?_)))
  · rw [eq];simp only;omega
  · exact (wU64 ef).1.1
  refine ih _ ?_ (by simp only;omega)
  rw [eg];simp only;omega
 refine Ok.bv fun _ _=>Ok.bv fun _ _=>Ok.bv fun _ _=>Ok.it (fun _=>ih _ hI (by simp only;omega)) (fun _=>?_)
 exact Ok.bv fun _ _=>Ok.bv fun _ _=>Ok.bv fun _ _=>Ok.bv fun _ _=>Ok.bv fun _ _=>Ok.it (fun _=>Ok.sm ⟨by decide,by decide⟩) (fun _=>Ok.bv fun _ _=>Ok.it (fun _=>Ok.bv fun _ _=>hJ _) (fun _=>hJ _))
theorem bOk_app {l m:List Int} (h:bytesOk l=true) (k:bytesOk m=true):bytesOk (l++m)=true:=by
 unfold bytesOk at *
 rw [List.all_append,h,k];rfl
theorem bOk_one {z:Int} (h:0≤z∧z≤255):bytesOk [z]=true:=by
 simp [bytesOk];exact h
theorem bOk_gel {l:List Int} (h:bytesOk l=true) (i:Int):0≤gel l i∧gel l i≤255:=by
 unfold bytesOk at h
 rw [List.all_eq_true] at h
 unfold gel
 by_cases hi:i.toNat<l.length
 · rw [List.getD_eq_getElem?_getD,List.getElem?_eq_getElem hi]
   have:=h _ (List.getElem_mem hi)
   simpa using this
 · rw [List.getD_eq_getElem?_getD,List.getElem?_eq_none oM]
   exact ⟨by decide,by decide⟩
theorem bOk_set {l:List Int} (h:bytesOk l=true) (i:Nat) {z:Int} (hz:0≤z∧z≤255):bytesOk (l.set i z)=true:=by
 unfold bytesOk at *
 rw [List.all_eq_true] at *
 intro x hx
 rcases List.mem_or_eq_of_mem_set hx with h'|h'
 · exact h x h'
 · rw [h'];simpa using hz
theorem num_Print_tot {x:Int} (hx:-9223372036854775808≤x∧x≤9223372036854775807):Ok (num_Print x) (fun r=>r.length≤41):=by
 unfold num_Print
 refine Ok.ob (num_abs_tot hx) fun y ey hy=>Ok.bv fun J4 eJ4=>Ok.bv fun B eB=>?_
 have hJ4:∀ s:List Int,bytesOk s=true∧s.length≤40→Ok (J4 s) (fun r=>r.length≤41):=by
  intro s hs
  rw [eJ4]
  refine Ok.bv fun J7 eJ7=>?_
  have hJ7:∀ s:List Int,bytesOk s=true∧s.length≤41→Ok (J7 s) (fun r=>r.length≤41):=by
   intro s hs
   rw [eJ7]
   refine Ok.bv fun J10 eJ10=>Ok.bv fun n en=>Ok.bv fun B eB=>?_
   have hJ10:∀ s:List Int,bytesOk s=true∧s.length≤41→Ok (J10 s) (fun r=>r.length≤41):=by
    intro s hs
    rw [eJ10]
    exact Ok.ck hs.1 (Ok.bv fun v ev=>Ok.sm (by rw [ev];simpa [toB] using hs.2))
   have hn:=(wI64 en).2 oM
   subst eB
   refine Ok.lp (fun s=>(0≤s.1∧s.2.1<(s.2.2.length:Int)∧s.1≤41)∧bytesOk s.2.2=true∧s.2.2.length≤41) (fun s=>(s.2.1-s.1).toNat) ⟨by simp only;omega,hs⟩ (by simp only;omega) fun s hI next ih=>Ok.bv fun c ec=>Ok.it (fun e=>?_) (fun _=>hJ10 _ hI.2)
   rw [ec,dT] at e
   refine Ok.ck oM (Ok.ck oM (Ok.bv fun r er=>Ok.bv fun i ei=>Ok.bv fun j ej=>?_))
   have hi:=(wI64 ei).2 oM
   have hj:=(wI64 ej).2 oM
   have hl:r.length=s.2.2.length:=by rw [er,List.length_set,List.length_set]
   refine ih _ ⟨by simp only;omega,?_,by simp only;omega⟩ (by simp only;omega)
   simp only
   rw [er]
   exact bOk_set (bOk_set hI.2.1 _ (bOk_gel hI.2.1 _)) _ (bOk_gel hI.2.1 _)
  refine Ok.bv fun c ec=>Ok.it (fun e=>Ok.ck (by simp;omega) (Ok.bv fun r er=>hJ7 _ ?_)) (fun _=>hJ7 _ ⟨hs.1,oM⟩)
  rw [er]
  exact ⟨bOk_app hs.1 (by decide),by simp;omega⟩
 subst eB
 refine Ok.lp (fun s=>∃ k:Nat,s.2.2.1=(k:Int)∧k≤20∧(0≤s.1∧s.1<((10 ^ (20-k):Nat):Int))∧bytesOk s.2.2.2=true∧s.2.2.2.length≤2*k) (fun s=>(21-s.2.2.1).toNat) ⟨0,rfl,by decide,⟨by simp only;omega,?_⟩,rfl,by simp⟩ (by simp) fun s hI next ih=>?_
 · show y<((10 ^ 20:Nat):Int)
   rw [show (10 ^ 20:Nat)=100000000000000000000 from rfl]
   omega
 obtain ⟨k,hk,hk20,hu,hb,hl⟩:=hI
 refine Ok.bv fun c1 ec1=>Ok.bv fun c2 ec2=>Ok.bv fun c ec=>Ok.it (fun e=>?_) (fun _=>hJ4 _ ⟨hb,oM⟩)
 simp [ec,ec1,ec2] at e
 have hk':k<20:=by
  rcases Nat.lt_or_ge k 20 with h|h
  · exact h
  · have:k=20:=oM
    subst this
    have h1:(10 ^ (20-20):Nat)=1:=rfl
    rw [h1] at hu
    omega
 have hp:(10 ^ (20-k):Nat)=10*10 ^ (20-(k+1)):=by
  rw [show 20-k=(20-(k+1))+1 by omega,Nat.pow_succ,Nat.mul_comm]
 have hu2:(10 ^ (20-k):Nat)≤100000000000000000000:=Nat.pow_le_pow_right (n:=10) (by decide) (show 20-k≤20 by omega)
 refine Ok.bv fun J46 eJ46=>Ok.bv fun J50 eJ50=>?_
 have hJ46:∀ s':Int × Bool × List Int,s'.1=s.1 / 10∧bytesOk s'.2.2=true∧s'.2.2.length≤2*(k+1)→Ok (J46 s') (fun r=>r.length≤41):=by
  intro s' h'
  rw [eJ46]
  refine Ok.bv fun i ei=>ih _ ?_ ?_
  · have hi:=(wI64 ei).2 oM
    refine ⟨k+1,by simp only;omega,oM,?_,h'.2⟩
    simp only
    rw [h'.1]
    omega
  · have hi:=(wI64 ei).2 oM
    simp only
    omega
 have hJ50:∀ s':Bool × List Int,bytesOk s'.2=true∧s'.2.length≤2*k+1→Ok (J50 s') (fun r=>r.length≤41):=by
  intro s' h'
  rw [eJ50]
  refine Ok.bv fun d ed=>Ok.bv fun d' ed'=>Ok.bv fun q eq=>Ok.bv fun _ _=>Ok.bv fun _ _=>?_
  have hd:s.1.tdiv 10=s.1 / 10:=Int.tdiv_eq_ediv_of_nonneg hu.1
  have hq:=(wU64 eq).2 oM
  refine Ok.it (fun _=>hJ46 _ ⟨by simp only;omega,h'.1,by simp only;omega⟩) (fun _=>Ok.bv fun b eb=>Ok.ck (by simp;omega) (Ok.bv fun l el=>hJ46 _ ⟨by simp only;omega,?_,?_⟩))
  · simp only;rw [el];exact bOk_app h'.1 (bOk_one (wU8 eb).1)
  · simp only;rw [el];simp;omega
 refine Ok.bv fun _ _=>Ok.it (fun _=>Ok.bv fun _ _=>Ok.it (fun _=>Ok.ck (by simp;omega) (Ok.bv fun l el=>hJ50 _ ⟨?_,?_⟩)) (fun _=>hJ50 _ ⟨hb,by simp only;omega⟩)) (fun _=>hJ50 _ ⟨hb,by simp only;omega⟩)
 · simp only;rw [el];exact bOk_app hb (by decide)
 · simp only;rw [el];simp;omega
end Go.Sp
end
section
namespace Go.Sp
open Go.Stp Go.ValP
theorem value_Text_eq (t:List UInt8):value_Text t=some (if 64<(t.length:Int) then ⟨4,2,[]⟩ else ⟨2,0,t⟩):=by
 unfold value_Text bindv
 by_cases h:64<(t.length:Int)<;>simp [h,obind,value_Fail]
theorem value_Bool_eq (b:Bool):value_Bool b=some ⟨3,if b=true then 1 else 0,[]⟩:=by
 cases b<;>rfl
theorem value_Made_eq (n:Int) (b:Bool):value_Made n b=some (if b=true then ⟨1,n,[]⟩ else ⟨4,5,[]⟩):=by
 cases b<;>rfl
theorem value_like_eq (x y:V):value_like x y=some (if x.k≠0 then x else if y.k=2 then ⟨2,0,[]⟩ else if y.k=3 then ⟨3,0,[]⟩ else ⟨1,0,[]⟩):=by
 unfold value_like bindv
 by_cases h0:x.k=0
 · by_cases h2:y.k=2
   · simp [h0,h2,obind,value_Text_eq]
   · by_cases h3:y.k=3
     · simp [h0,h2,h3,obind,value_Bool_eq]
     · simp [h0,h2,h3,obind,value_Num]
 · simp [h0]
theorem value_Compare_tot (x y:V):Ok (value_Compare x y) (fun _=>True):=by
 unfold value_Compare
 rw [value_like_eq,value_like_eq]
 refine Ok.os fun a ea=>Ok.os fun b eb=>Ok.bv fun _ _=>Ok.it (fun _=>?_) (fun _=>?_)
 · exact Ok.os fun _ _=>Ok.os fun _ _=>Ok.bv fun _ _=>Ok.sm trivial
 · exact Ok.bv fun _ _=>Ok.it (fun _=>Ok.bv fun _ _=>Ok.sm trivial) (fun _=>Ok.bv fun _ _=>Ok.it (fun _=>Ok.sm trivial) (fun _=>Ok.bv fun _ _=>Ok.it (fun _=>Ok.sm trivial) (fun _=>Ok.sm trivial)))
structure Gd (x:V):Prop where
 k0:0≤x.k
 k3:x.k≤3
 s:x.s.length≤64
 n1:x.k=1→-9223372036854775807≤x.n∧x.n≤9223372036854775807
 n3:x.k=3→0≤x.n∧x.n≤1
theorem and1 (n:Int):0≤bits .and .i64 n 1∧bits .and .i64 n 1≤1:=by
 have h:(BitVec.ofInt 64 n &&& BitVec.ofInt 64 1).toNat≤1:=by
  rw [BitVec.toNat_and]
  exact Nat.and_le_right
 show 0≤IntKind.i64.wrap ((BitVec.ofInt 64 n &&& BitVec.ofInt 64 1).toNat:Int)∧IntKind.i64.wrap ((BitVec.ofInt 64 n &&& BitVec.ofInt 64 1).toNat:Int)≤1
 generalize (BitVec.ofInt 64 n &&& BitVec.ofInt 64 1).toNat=v at h
 have:=(wI64 (z:=IntKind.i64.wrap (v:Int)) rfl).2 oM
 omega
theorem value_Show_tot {x:V} (h:Gd x) (hn:-9223372036854775808≤x.n∧x.n≤9223372036854775807):Ok (value_Show x) (fun r=>r.length≤64):=by
 unfold value_Show
 refine Ok.bv fun _ _=>Ok.it (fun _=>Ok.ob (num_Print_tot hn) fun y ey hy=>Ok.sm oM) (fun _=>Ok.bv fun _ _=>Ok.it (fun _=>Ok.sm h.s) (fun _=>Ok.bv fun _ _=>Ok.it (fun _=>Ok.bv fun _ _=>Ok.it (fun _=>Ok.sm (by decide)) (fun _=>Ok.sm (by decide))) (fun _=>Ok.bv fun _ e=>Ok.it (fun g=>?_) (fun _=>Ok.sm (by decide)))))
 simp [e] at g
 have:=h.k3
 omega
theorem trim_len (s p:List UInt8):(Lib.trimPrefix s p).length≤s.length:=by
 unfold Lib.trimPrefix
 split<;>simp
end Go.Sp
end
section
namespace Go.Sp
open Go.Stp Go.ValP
def Rt (v:V):Prop:=
 (v.k=0∧v.n=0∧v.s=[])∨(v.k=1∧(-9223372036854775807≤v.n∧v.n≤9223372036854775807)∧v.s=[])∨(v.k=2∧v.n=0∧v.s.length≤64)∨
  (v.k=3∧(v.n=0∨v.n=1)∧v.s=[])∨(v.k=4∧(1≤v.n∧v.n≤7)∧v.s=[])
theorem Rt.n {v:V} (h:Rt v):-9223372036854775807≤v.n∧v.n≤9223372036854775807:=by unfold Rt at h;omega
theorem Rt.len {v:V} (h:Rt v):v.s.length≤64:=by
 rcases h with h|h|h|h|h
 · simp [h.2.2]
 · simp [h.2.2]
 · exact h.2.2
 · simp [h.2.2]
 · simp [h.2.2]
theorem Rt.gd {v:V} (h:Rt v) (h4:v.k≠4):Gd v:=by
 have hl:=h.len
 unfold Rt at h
 exact ⟨oM,oM,hl,oM,oM⟩
theorem value_Right_inv {x:V} (hn:-9223372036854775808≤x.n∧x.n≤9223372036854775807):Ok (value_Right x) (fun b=>b=true→Rt x):=by
 unfold value_Right
 refine Ok.bv fun _ e0=>Ok.it (fun h=>Ok.bv fun _ a=>Ok.bv fun _ b=>Ok.bv fun _ c=>Ok.sm fun g=>?_) (fun h=>?_)
 · simp [e0] at h
   simp [c,a,b] at g
   exact .inl ⟨h,g.1,g.2⟩
 refine Ok.bv fun _ e1=>Ok.it (fun h=>Ok.bv fun _ a=>Ok.bv fun _ b=>Ok.bv fun _ c=>Ok.sm fun g=>?_) (fun h=>?_)
 · simp [e1] at h
   simp [c,a,b] at g
   exact .inr (.inl ⟨h,oM,g.2⟩)
 refine Ok.bv fun _ e2=>Ok.it (fun h=>Ok.bv fun _ a=>Ok.bv fun _ b=>Ok.bv fun _ c=>Ok.sm fun g=>?_) (fun h=>?_)
 · simp [e2] at h
   simp [c,a,b] at g
   exact .inr (.inr (.inl ⟨h,g.1,oM⟩))
 refine Ok.bv fun _ e3=>Ok.it (fun h=>Ok.bv fun _ a=>Ok.bv fun _ b=>Ok.bv fun _ c=>Ok.bv fun _ d=>Ok.sm fun g=>?_) (fun h=>?_)
 · simp [e3] at h
   simp [d,b,a,c] at g
   have:=and1 x.n
   exact .inr (.inr (.inr (.inl ⟨h,oM,g.2⟩)))
 refine Ok.bv fun _ e4=>Ok.it (fun h=>Ok.bv fun _ a=>Ok.bv fun _ b=>Ok.bv fun _ c=>Ok.bv fun _ d=>Ok.bv fun _ f=>Ok.sm fun g=>?_) (fun h=>Ok.sm fun h=>absurd h Bool.false_ne_true)
 simp [e4] at h
 simp [f,c,a,b,d] at g
 exact .inr (.inr (.inr (.inr ⟨h,oM,g.2⟩)))
theorem rtNum {n:Int} (h:-9223372036854775807≤n∧n≤9223372036854775807):Rt ⟨1,n,[]⟩:=.inr (.inl ⟨rfl,h,rfl⟩)
theorem rtFail {n:Int} (h:1≤n∧n≤7):Rt ⟨4,n,[]⟩:=.inr (.inr (.inr (.inr ⟨rfl,h,rfl⟩)))
theorem value_Num_tot {x0:Int} (h:-9223372036854775807≤x0∧x0≤9223372036854775807):Ok (value_Num x0) (fun r=>Rt r∧(r.k=4∨r.k=1)):=Ok.sm ⟨rtNum h,.inr rfl⟩
theorem value_Fail_tot {x0:Int} (h:1≤x0∧x0≤7):Ok (value_Fail x0) (fun r=>Rt r∧(r.k=4∨r.k=1)):=Ok.sm ⟨rtFail h,.inl rfl⟩
theorem value_Bool_tot {x0:Bool}:Ok (value_Bool x0) Rt:=by
 rw [value_Bool_eq]
 cases x0
 · exact Ok.sm (.inr (.inr (.inr (.inl ⟨rfl,.inl rfl,rfl⟩))))
 · exact Ok.sm (.inr (.inr (.inr (.inl ⟨rfl,.inr rfl,rfl⟩))))
theorem value_Text_tot {x0:List UInt8}:Ok (value_Text x0) (fun r=>Rt r∧r.s.length≤64):=by
 rw [value_Text_eq]
 by_cases h:64<(x0.length:Int)
 · rw [if_pos h];exact Ok.sm ⟨rtFail (by decide),by decide⟩
 · rw [if_neg h];exact Ok.sm ⟨.inr (.inr (.inl ⟨rfl,rfl,by simp only;omega⟩)),by simp only;omega⟩
theorem value_Made_tot {x0:Int} {x1:Bool} (h:x1=true→-9223372036854775807≤x0∧x0≤9223372036854775807):Ok (value_Made x0 x1) (fun r=>Rt r∧(r.k=4∨r.k=1)):=by
 rw [value_Made_eq]
 cases x1
 · exact Ok.sm ⟨rtFail (by decide),.inl rfl⟩
 · exact Ok.sm ⟨rtNum (h rfl),.inr rfl⟩
theorem tmod_nat (a:Int) {c:Int} (hc:c≠0):(a.tmod c).natAbs<c.natAbs:=by
 rcases Int.lt_or_gt_of_ne hc with h|h
 · have:=tmod_bd a (c:=-c) oM
   rw [Int.tmod_neg] at this
   omega
 · have:=tmod_bd a (c:=c) h
   omega
theorem tdiv_nat (a c:Int):(a.tdiv c).natAbs≤a.natAbs:=by
 rw [Int.natAbs_tdiv]
 exact Nat.div_le_self _ _
theorem mul_guard {a s:Int} (hs:1≤s) (h1:a≤Int.tdiv 9223372036854775807 s) (h2:Int.tdiv (-9223372036854775807) s≤a):-9223372036854775807≤a*s∧a*s≤9223372036854775807:=by
 have e:Int.tdiv 9223372036854775807 s=9223372036854775807 / s:=Int.tdiv_eq_ediv_of_nonneg (by decide)
 rw [Int.neg_tdiv] at h2
 rw [e] at h1 h2
 have hd:9223372036854775807 / s*s≤9223372036854775807:=Int.ediv_mul_le _ oM
 have u1:a*s≤9223372036854775807 / s*s:=Int.mul_le_mul_of_nonneg_right h1 oM
 have u2:-(9223372036854775807 / s)*s≤a*s:=Int.mul_le_mul_of_nonneg_right h2 oM
 rw [Int.neg_mul] at u2
 omega
theorem all_snoc {α:Type} {l:List α} {z:α} {P:α→Prop} (h:∀ x∈l,P x) (hz:P z):∀ x∈l++[z],P x:=by
 intro x hx
 rcases List.mem_append.1 hx with h'|h'
 · exact h x h'
 · rw [List.mem_singleton.1 h'];exact hz
theorem all2 {α:Type} {a b:α} {P:α→Prop} (h:P a) (k:P b):∀ x∈[a,b],P x:=by
 intro x hx
 simp at hx
 rcases hx with rfl|rfl
 · exact h
 · exact k
theorem all_app {α:Type} {l m:List α} {P:α→Prop} (h:∀ x∈l,P x) (k:∀ x∈m,P x):∀ x∈l++m,P x:=by
 intro x hx
 rcases List.mem_append.1 hx with h'|h'
 · exact h x h'
 · exact k x h'
theorem all_cut {α:Type} {l:List α} {P:α→Prop} (h:∀ x∈l,P x) (a b:Int):∀ x∈cutL l a b,P x:=fun x hx=>h x (List.mem_of_mem_take (List.mem_of_mem_drop hx))
theorem cutL_len {α:Type} (l:List α) (a b:Int) (h:0≤a∧a≤b∧b≤(l.length:Int)):((cutL l a b).length:Int)=b-a:=by
 unfold cutL
 rw [List.length_drop,List.length_take]
 omega
theorem value_Show_rt {x0:V} (h:Rt x0) (h4:x0.k≠4):Ok (value_Show x0) (fun r=>r.length≤64):=value_Show_tot (h.gd h4) (by have:=h.n;omega)
end Go.Sp
end
section
set_option maxRecDepth 100000
namespace Go.Sp
open Go.Stp Go.ValP
theorem num_Of_tot {x0:Int}  : Ok (num_Of x0) (fun r=>-9223372036854775807≤r.1∧r.1≤9223372036854775807):=by
 unfold num_Of
 refine Ok.bv fun z2 ez2=>Ok.bv fun z3 ez3=>Ok.bv fun z4 ez4=>Ok.it (fun c=>?_) (fun c=>?_)
 · try simp only [ez4,ez3,ez2,BL] at c
   exact Ok.sm fB
 · try simp only [ez4,ez3,ez2,BL] at c
   refine Ok.bv fun z6 ez6=>?_
   have rz6:=(wI64 ez6).1
   try replace ez6:=(wI64 ez6).2 oM
   exact Ok.sm fB
theorem num_Floor_tot {x0:Int}  : Ok (num_Floor x0) (fun r=>r.2=true→-9223372036854775807≤r.1∧r.1≤9223372036854775807):=by
 unfold num_Floor
 refine Ok.bv fun z1 ez1=>Ok.bv fun J3 eJ3=>?_
 have hJ3:∀ s3:Int,(True)→Ok (J3 s3) (fun r=>r.2=true→-9223372036854775807≤r.1∧r.1≤9223372036854775807):=by
  intro s3 hs3
  rw [eJ3]
  refine Ok.ob (num_Sub_tot _ _) fun y4 ey4 hy4=>?_
  exact Ok.sm (by exact hy4)
 clear eJ3
 refine Ok.bv fun z5 ez5=>Ok.it (fun c=>?_) (fun c=>?_)
 · try simp only [ez5,dT] at c
   refine Ok.bv fun z7 ez7=>?_
   have rz7:=(wI64 ez7).1
   try replace ez7:=(wI64 ez7).2 oM
   exact hJ3 _ fA
 · try simp only [ez5,dF] at c
   exact hJ3 _ fA
theorem maths_gcd_tot {x0:Int} {x1:Int} (h1:-9223372036854775808≤x1∧x1≤9223372036854775807):Ok (maths_gcd x0 x1) (fun _=>True):=by
 unfold maths_gcd
 refine Ok.bv fun J2 eJ2=>?_
 have hJ2:∀ s2:Int,(True)→Ok (J2 s2) (fun _=>True):=by
  intro s2 hs2
  rw [eJ2]
  exact Ok.sm fB
 clear eJ2
 refine Ok.bv fun B3 eB3=>?_
 subst eB3
 refine Ok.lp (fun s3:Int × Int=>True) (fun s3=>s3.2.natAbs) fE fD fun s3 hs3 nextn3 ihn3=>?_
 refine Ok.bv fun z6 ez6=>Ok.it (fun c=>?_) (fun c=>?_)
 · try simp only [ez6,BL] at c
   refine Ok.ckf fC fun k1=>Ok.bv fun z10 ez10=>?_
   have ht:=tmod_nat s3.1 k1
   rw [←ez10] at ht
   exact ihn3 _ fE fD
 · try simp only [ez6,BL] at c
   exact hJ2 _ fA
theorem maths_whole_tot {x0:List (Int)} (hl:x0.length≤1000):Ok (maths_whole x0) (fun r=>r.length=x0.length∧∀ x∈r,-9223372036854775808≤x∧x≤9223372036854775807):=by
 unfold maths_whole
 refine Ok.bv fun J2 eJ2=>?_
 have hJ2:∀ s2:(List (Int)),(s2.length=x0.length∧∀ x∈s2,-9223372036854775808≤x∧x≤9223372036854775807)→Ok (J2 s2) (fun r=>r.length=x0.length∧∀ x∈r,-9223372036854775808≤x∧x≤9223372036854775807):=by
  intro s2 hs2
  rw [eJ2]
  exact Ok.sm fB
 clear eJ2
 refine Ok.bv fun B5 eB5=>?_
 subst eB5
 refine Ok.lp (fun s5:Int × (List (Int))=>(0≤s5.1∧s5.1≤(x0.length:Int))∧(s5.2.length:Int)=s5.1∧∀ x∈s5.2,-9223372036854775808≤x∧x≤9223372036854775807) (fun s5=>((x0.length:Int)-s5.1).toNat) (by refine ⟨by simp only;omega,rfl,fun x hx=>?_⟩;cases hx) fD fun s5 hs5 nextn5 ihn5=>?_
 refine Ok.bv fun z8 ez8=>Ok.it (fun c=>?_) (fun c=>?_)
 · try simp only [ez8,dT] at c
   refine Ok.ckf fC fun k1=>Ok.bv fun z13 ez13=>Ok.bv fun z14 ez14=>?_
   try have qz14:=tdiv_nat z13 1000000
   have rz14:=(wI64 ez14).1
   try replace ez14:=(wI64 ez14).2 oM
   refine Ok.ckf fC fun k2=>Ok.bv fun z18 ez18=>Ok.bv fun z19 ez19=>?_
   have rz19:=(wI64 ez19).1
   try replace ez19:=(wI64 ez19).2 oM
   exact ihn5 _ (by refine ⟨by simp only;omega,by simp only [ez18,List.length_append,List.length_singleton];omega,?_⟩;simp only [ez18];exact all_snoc hs5.2.2 rz14) fD
 · try simp only [ez8,dF] at c
   exact hJ2 _ (by exact ⟨oM,hs5.2.2⟩)
theorem maths_back_tot {x0:Int}  : Ok (maths_back x0) (fun r=>Rt r∧(r.k=4∨r.k=1)):=by
 unfold maths_back
 refine Ok.ob (num_Of_tot) fun y2 ey2 hy2=>Ok.ob (value_Made_tot (fun _=>hy2)) fun y3 ey3 hy3=>?_
 exact Ok.sm (by first|exact hy3|exact hy3.1|exact fB)
theorem maths_away_tot {x0:Int} {x1:Bool}  : Ok (maths_away x0 x1) (fun r=>Rt r∧(r.k=4∨r.k=1)):=by
 unfold maths_away
 refine Ok.bv fun z2 ez2=>?_
 try have qz2:=tdiv_nat x0 1000000
 have rz2:=(wI64 ez2).1
 try replace ez2:=(wI64 ez2).2 oM
 refine Ok.bv fun J4 eJ4=>?_
 have hJ4:∀ s4:Int × Int,(True)→Ok (J4 s4) (fun r=>Rt r∧(r.k=4∨r.k=1)):=by
  intro s4 hs4
  rw [eJ4]
  refine Ok.bv fun J6 eJ6=>?_
  have hJ6:∀ s6:Int,(True)→Ok (J6 s6) (fun r=>Rt r∧(r.k=4∨r.k=1)):=by
   intro s6 hs6
   rw [eJ6]
   refine Ok.bv fun J8 eJ8=>?_
   have hJ8:∀ s8:Int,(True)→Ok (J8 s8) (fun r=>Rt r∧(r.k=4∨r.k=1)):=by
    intro s8 hs8
    rw [eJ8]
    refine Ok.bv fun z9 ez9=>?_
    have rz9:=(wI64 ez9).1
    try replace ez9:=(wI64 ez9).2 oM
    refine Ok.ob (maths_back_tot) fun y10 ey10 hy10=>?_
    exact Ok.sm (by first|exact hy10|exact hy10.1|exact fB)
   clear eJ8
   refine Ok.bv fun z11 ez11=>Ok.bv fun z12 ez12=>Ok.bv fun z13 ez13=>Ok.it (fun c=>?_) (fun c=>?_)
   · try simp only [ez13,ez12,BL] at c
     refine Ok.bv fun z15 ez15=>?_
     have rz15:=(wI64 ez15).1
     try replace ez15:=(wI64 ez15).2 oM
     exact hJ8 _ fA
   · try simp only [ez13,ez12,BL] at c
     exact hJ8 _ fA
  clear eJ6
  refine Ok.bv fun z16 ez16=>Ok.bv fun z17 ez17=>Ok.it (fun c=>?_) (fun c=>?_)
  · try simp only [ez17,BL] at c
    refine Ok.bv fun z19 ez19=>?_
    have rz19:=(wI64 ez19).1
    try replace ez19:=(wI64 ez19).2 oM
    exact hJ6 _ fA
  · try simp only [ez17,BL] at c
    exact hJ6 _ fA
 clear eJ4
 refine Ok.bv fun z20 ez20=>Ok.it (fun c=>?_) (fun c=>?_)
 · try simp only [ez20,dT] at c
   refine Ok.bv fun z22 ez22=>?_
   have rz22:=(wI64 ez22).1
   try replace ez22:=(wI64 ez22).2 oM
   exact hJ4 _ fA
 · try simp only [ez20,dF] at c
   exact hJ4 _ fA
theorem maths_round_tot {x0:Int} {x1:Int} (h0:-9223372036854775807≤x0∧x0≤9223372036854775807) (h1:-6≤x1∧x1≤6):Ok (maths_round x0 x1) (fun r=>Rt r∧(r.k=4∨r.k=1)):=by
 unfold maths_round
 refine Ok.bv fun J3 eJ3=>?_
 have hJ3:∀ s3:Int,(1≤s3∧s3≤1000000000000)→Ok (J3 s3) (fun r=>Rt r∧(r.k=4∨r.k=1)):=by
  intro s3 hs3
  rw [eJ3]
  refine Ok.ckf fC fun k1=>Ok.bv fun z5 ez5=>?_
  try have qz5:=tdiv_nat x0 s3
  have rz5:=(wI64 ez5).1
  try replace ez5:=(wI64 ez5).2 oM
  refine Ok.ckf fC fun k2=>Ok.bv fun z7 ez7=>Ok.bv fun J9 eJ9=>?_
  have hJ9:∀ s9:Int,(True)→Ok (J9 s9) (fun r=>Rt r∧(r.k=4∨r.k=1)):=by
   intro s9 hs9
   rw [eJ9]
   refine Ok.bv fun J11 eJ11=>?_
   have hJ11:∀ s11:Int,(True)→Ok (J11 s11) (fun r=>Rt r∧(r.k=4∨r.k=1)):=by
    intro s11 hs11
    rw [eJ11]
    refine Ok.ckf fC fun k3=>Ok.bv fun z14 ez14=>?_
    try have qz14:=tdiv_nat 9223372036854775807 s3
    have rz14:=(wI64 ez14).1
    try replace ez14:=(wI64 ez14).2 oM
    refine Ok.bv fun z15 ez15=>Ok.ckf (by first|(simp only [ez15,BL];omega)|(simp [ez15];omega)|(simp [ez15];done)|exact fC) fun k4=>Ok.bv fun z17 ez17=>?_
    try have qz17:=tdiv_nat (-9223372036854775807) s3
    have rz17:=(wI64 ez17).1
    try replace ez17:=(wI64 ez17).2 oM
    refine Ok.bv fun z18 ez18=>Ok.bv fun z19 ez19=>Ok.it (fun c=>?_) (fun c=>?_)
    · try simp only [ez19,ez18,ez15,BL] at c
      refine Ok.ob (value_Fail_tot fA) fun y21 ey21 hy21=>?_
      exact Ok.sm (by first|exact hy21|exact hy21.1|exact fB)
    · try simp only [ez19,ez18,ez15,BL] at c
      have hg:=mul_guard (a:=s11) hs3.1 (by rw [←ez14];omega) (by rw [←ez17];omega)
      refine Ok.bv fun z22 ez22=>?_
      have rz22:=(wI64 ez22).1
      try replace ez22:=(wI64 ez22).2 oM
      refine Ok.ob (value_Num_tot oM) fun y23 ey23 hy23=>?_
      exact Ok.sm (by first|exact hy23|exact hy23.1|exact fB)
   clear eJ11
   refine Ok.bv fun z24 ez24=>?_
   have rz24:=(wI64 ez24).1
   try replace ez24:=(wI64 ez24).2 oM
   refine Ok.bv fun z25 ez25=>Ok.it (fun c=>?_) (fun c=>?_)
   · try simp only [ez25,dT] at c
     refine Ok.bv fun z27 ez27=>Ok.it (fun c=>?_) (fun c=>?_)
     · try simp only [ez27,dT] at c
       refine Ok.bv fun z29 ez29=>?_
       have rz29:=(wI64 ez29).1
       try replace ez29:=(wI64 ez29).2 oM
       exact hJ11 _ fA
     · try simp only [ez27,dF] at c
       refine Ok.bv fun z30 ez30=>?_
       have rz30:=(wI64 ez30).1
       try replace ez30:=(wI64 ez30).2 oM
       exact hJ11 _ fA
   · try simp only [ez25,dF] at c
     exact hJ11 _ fA
  clear eJ9
  refine Ok.bv fun z31 ez31=>Ok.it (fun c=>?_) (fun c=>?_)
  · try simp only [ez31,dT] at c
    refine Ok.bv fun z33 ez33=>?_
    have rz33:=(wI64 ez33).1
    try replace ez33:=(wI64 ez33).2 oM
    exact hJ9 _ fA
  · try simp only [ez31,dF] at c
    exact hJ9 _ fA
 clear eJ3
 refine Ok.bv fun z34 ez34=>?_
 have rz34:=(wI64 ez34).1
 try replace ez34:=(wI64 ez34).2 oM
 refine Ok.bv fun B36 eB36=>?_
 subst eB36
 refine Ok.lp (fun s36:Int × Int=>∃ k:Nat,s36.2=(k:Int)∧k≤12∧s36.1=((10 ^ k:Nat):Int)∧(k:Int)≤z34) (fun s36=>(z34-s36.2).toNat) (by exact ⟨0,rfl,by decide,rfl,oM⟩) fD fun s36 hs36 nextn36 ihn36=>?_
 obtain ⟨k,hk1,hk2,hk3,hk4⟩:=hs36
 have hp:(10 ^ k:Nat)≤1000000000000:=Nat.pow_le_pow_right (n:=10) (by decide) hk2
 have hp1:1≤(10 ^ k:Nat):=Nat.pow_pos (by decide)
 refine Ok.bv fun z38 ez38=>Ok.it (fun c=>?_) (fun c=>?_)
 · try simp only [ez38,dT] at c
   refine Ok.bv fun z42 ez42=>?_
   have rz42:=(wI64 ez42).1
   try replace ez42:=(wI64 ez42).2 oM
   refine Ok.bv fun z43 ez43=>?_
   have rz43:=(wI64 ez43).1
   try replace ez43:=(wI64 ez43).2 oM
   exact ihn36 _ (by refine ⟨k+1,by simp only;omega,oM,?_,oM⟩;simp only [ez42];rw [Nat.pow_succ];omega) fD
 · try simp only [ez38,dF] at c
   exact hJ3 _ fA
theorem lists_numbers_tot {x0:List (V)} (hl:x0.length≤1000) (hx:∀ x∈x0,Rt x):Ok (lists_numbers x0) (fun r=>r.length≤x0.length∧∀ x∈r,-9223372036854775807≤x∧x≤9223372036854775807):=by
 unfold lists_numbers
 refine Ok.bv fun J2 eJ2=>?_
 have hJ2:∀ s2:(List (Int)),(s2.length≤x0.length∧∀ x∈s2,-9223372036854775807≤x∧x≤9223372036854775807)→Ok (J2 s2) (fun r=>r.length≤x0.length∧∀ x∈r,-9223372036854775807≤x∧x≤9223372036854775807):=by
  intro s2 hs2
  rw [eJ2]
  exact Ok.sm fB
 clear eJ2
 refine Ok.bv fun B5 eB5=>?_
 subst eB5
 refine Ok.lp (fun s5:Int × (List (Int))=>(0≤s5.1∧s5.1≤(x0.length:Int))∧(s5.2.length:Int)≤s5.1∧∀ x∈s5.2,-9223372036854775807≤x∧x≤9223372036854775807) (fun s5=>((x0.length:Int)-s5.1).toNat) (by refine ⟨by simp only;omega,by simp,fun x hx=>?_⟩;cases hx) fD fun s5 hs5 nextn5 ihn5=>?_
 refine Ok.bv fun z8 ez8=>Ok.it (fun c=>?_) (fun c=>?_)
 · try simp only [ez8,dT] at c
   refine Ok.ckf fC fun k1=>Ok.bv fun z13 ez13=>?_
   have hz:=Rt.n (gelP hx ez13 oM)
   refine Ok.bv fun z15 ez15=>Ok.it (fun c=>?_) (fun c=>?_)
   · try simp only [ez15,dT] at c
     refine Ok.ckf fC fun k2=>Ok.bv fun z20 ez20=>Ok.bv fun z21 ez21=>?_
     have rz21:=(wI64 ez21).1
     try replace ez21:=(wI64 ez21).2 oM
     exact ihn5 _ (by refine ⟨by simp only;omega,by simp only [ez20,List.length_append,List.length_singleton];omega,?_⟩;simp only [ez20];exact all_snoc hs5.2.2 hz) fD
   · try simp only [ez15,dF] at c
     refine Ok.bv fun z22 ez22=>?_
     have rz22:=(wI64 ez22).1
     try replace ez22:=(wI64 ez22).2 oM
     exact ihn5 _ (by refine ⟨by simp only;omega,by simp only;omega,hs5.2.2⟩) fD
 · try simp only [ez8,dF] at c
   exact hJ2 _ (by exact ⟨oM,hs5.2.2⟩)
theorem lists_Sum_tot {x0:List (V)} (hl:x0.length≤1000) (hx:∀ x∈x0,Rt x):Ok (lists_Sum x0) (fun r=>Rt r∧(r.k=4∨r.k=1)):=by
 unfold lists_Sum
 refine Ok.bv fun J3 eJ3=>?_
 have hJ3:∀ s3:Int × Bool,(s3.2=true→-9223372036854775807≤s3.1∧s3.1≤9223372036854775807)→Ok (J3 s3) (fun r=>Rt r∧(r.k=4∨r.k=1)):=by
  intro s3 hs3
  rw [eJ3]
  refine Ok.ob (value_Made_tot hs3) fun y4 ey4 hy4=>?_
  exact Ok.sm (by first|exact hy4|exact hy4.1|exact fB)
 clear eJ3
 refine Ok.ob (lists_numbers_tot fA fA) fun y5 ey5 hy5=>?_
 obtain ⟨hyl,hyy⟩:=hy5
 refine Ok.bv fun B8 eB8=>?_
 subst eB8
 refine Ok.lp (fun s8:Int × Bool × Int=>(0≤s8.2.2∧s8.2.2≤(y5.length:Int))∧(s8.2.1=true→-9223372036854775807≤s8.1∧s8.1≤9223372036854775807)) (fun s8=>((y5.length:Int)-s8.2.2).toNat) (by exact ⟨by simp only;omega,fun _=>⟨by decide,by decide⟩⟩) fD fun s8 hs8 nextn8 ihn8=>?_
 refine Ok.bv fun z10 ez10=>Ok.it (fun c=>?_) (fun c=>?_)
 · try simp only [ez10,dT] at c
   refine Ok.ckf fC fun k1=>Ok.bv fun z15 ez15=>Ok.it (fun c=>?_) (fun c=>?_)
   · refine Ok.ob (num_Add_tot _ _) fun y17 ey17 hy17=>Ok.bv fun z18 ez18=>?_
     have rz18:=(wI64 ez18).1
     try replace ez18:=(wI64 ez18).2 oM
     exact ihn8 _ (by exact ⟨by simp only;omega,hy17⟩) fD
   · refine Ok.bv fun z19 ez19=>?_
     have rz19:=(wI64 ez19).1
     try replace ez19:=(wI64 ez19).2 oM
     exact ihn8 _ (by exact ⟨by simp only;omega,hs8.2⟩) fD
 · try simp only [ez10,dF] at c
   exact hJ3 _ (by exact hs8.2)
theorem lists_Extreme_tot {x0:Bool} {x1:List (V)} (hl:x1.length≤1000) (hx:∀ x∈x1,Rt x):Ok (lists_Extreme x0 x1) (fun r=>Rt r∧(r.k=4∨r.k=1)):=by
 unfold lists_Extreme
 refine Ok.ob (lists_numbers_tot fA fA) fun y2 ey2 hy2=>?_
 obtain ⟨hyl,hyy⟩:=hy2
 refine Ok.bv fun z5 ez5=>Ok.it (fun c=>?_) (fun c=>?_)
 · try simp only [ez5,dT] at c
   refine Ok.ob (value_Num_tot fA) fun y7 ey7 hy7=>?_
   exact Ok.sm (by first|exact hy7|exact hy7.1|exact fB)
 · try simp only [ez5,dF] at c
   refine Ok.ckf fC fun k1=>Ok.bv fun z9 ez9=>?_
   have hz:=gelP hyy ez9 oM
   refine Ok.bv fun J11 eJ11=>?_
   have hJ11:∀ s11:Int,(-9223372036854775807≤s11∧s11≤9223372036854775807)→Ok (J11 s11) (fun r=>Rt r∧(r.k=4∨r.k=1)):=by
    intro s11 hs11
    rw [eJ11]
    refine Ok.ob (value_Num_tot fA) fun y12 ey12 hy12=>?_
    exact Ok.sm (by first|exact hy12|exact hy12.1|exact fB)
   clear eJ11
   refine Ok.bv fun B14 eB14=>?_
   subst eB14
   refine Ok.lp (fun s14:Int × Int=>(0≤s14.2∧s14.2≤(y2.length:Int))∧(-9223372036854775807≤s14.1∧s14.1≤9223372036854775807)) (fun s14=>((y2.length:Int)-s14.2).toNat) fE fD fun s14 hs14 nextn14 ihn14=>?_
   refine Ok.bv fun z16 ez16=>Ok.it (fun c=>?_) (fun c=>?_)
   · try simp only [ez16,dT] at c
     refine Ok.ckf fC fun k2=>Ok.bv fun z21 ez21=>?_
     have hz2:=gelP hyy ez21 oM
     refine Ok.bv fun z22 ez22=>Ok.bv fun z23 ez23=>Ok.bv fun z24 ez24=>Ok.bv fun z25 ez25=>Ok.it (fun c=>?_) (fun c=>?_)
     · try simp only [ez25,ez24,ez23,ez22,BL] at c
       refine Ok.bv fun z27 ez27=>?_
       have rz27:=(wI64 ez27).1
       try replace ez27:=(wI64 ez27).2 oM
       exact ihn14 _ fE fD
     · try simp only [ez25,ez24,ez23,ez22,BL] at c
       refine Ok.bv fun z28 ez28=>?_
       have rz28:=(wI64 ez28).1
       try replace ez28:=(wI64 ez28).2 oM
       exact ihn14 _ fE fD
   · try simp only [ez16,dF] at c
     exact hJ11 _ fA
theorem lists_equal_tot {x0:V} {x1:V}  : Ok (lists_equal x0 x1) (fun _=>True):=by
 unfold lists_equal
 refine Ok.bv fun z3 ez3=>Ok.bv fun z4 ez4=>Ok.bv fun z5 ez5=>Ok.bv fun z6 ez6=>Ok.bv fun z7 ez7=>?_
 exact Ok.sm fB
theorem lists_Count_tot {x0:Int} {x1:Bool} {x2:List (V)} (hl:x2.length≤1000):Ok (lists_Count x0 x1 x2) (fun r=>Rt r∧(r.k=4∨r.k=1)):=by
 unfold lists_Count
 refine Ok.bv fun J3 eJ3=>?_
 have hJ3:∀ s3:Int,(True)→Ok (J3 s3) (fun r=>Rt r∧(r.k=4∨r.k=1)):=by
  intro s3 hs3
  rw [eJ3]
  refine Ok.ob (num_Of_tot) fun y4 ey4 hy4=>Ok.ob (value_Made_tot (fun _=>hy4)) fun y5 ey5 hy5=>?_
  exact Ok.sm (by first|exact hy5|exact hy5.1|exact fB)
 clear eJ3
 refine Ok.bv fun B7 eB7=>?_
 subst eB7
 refine Ok.lp (fun s7:Int × Int=>(0≤s7.2∧s7.2≤(x2.length:Int))) (fun s7=>((x2.length:Int)-s7.2).toNat) fE fD fun s7 hs7 nextn7 ihn7=>?_
 refine Ok.bv fun z9 ez9=>Ok.it (fun c=>?_) (fun c=>?_)
 · try simp only [ez9,dT] at c
   refine Ok.ckf fC fun k1=>Ok.bv fun z14 ez14=>Ok.bv fun z16 ez16=>Ok.bv fun z17 ez17=>Ok.it (fun c=>?_) (fun c=>?_)
   · try simp only [ez17,ez16,BL] at c
     refine Ok.bv fun z19 ez19=>?_
     have rz19:=(wI64 ez19).1
     try replace ez19:=(wI64 ez19).2 oM
     refine Ok.bv fun z20 ez20=>?_
     have rz20:=(wI64 ez20).1
     try replace ez20:=(wI64 ez20).2 oM
     exact ihn7 _ fE fD
   · try simp only [ez17,ez16,BL] at c
     refine Ok.bv fun z21 ez21=>?_
     have rz21:=(wI64 ez21).1
     try replace ez21:=(wI64 ez21).2 oM
     exact ihn7 _ fE fD
 · try simp only [ez9,dF] at c
   exact hJ3 _ fA
theorem lists_CountIf_tot {x0:V} {x1:List (V)} (hl:x1.length≤1000):Ok (lists_CountIf x0 x1) (fun r=>Rt r∧(r.k=4∨r.k=1)):=by
 unfold lists_CountIf
 refine Ok.bv fun J4 eJ4=>?_
 have hJ4:∀ s4:Int,(True)→Ok (J4 s4) (fun r=>Rt r∧(r.k=4∨r.k=1)):=by
  intro s4 hs4
  rw [eJ4]
  refine Ok.ob (num_Of_tot) fun y5 ey5 hy5=>Ok.ob (value_Made_tot (fun _=>hy5)) fun y6 ey6 hy6=>?_
  exact Ok.sm (by first|exact hy6|exact hy6.1|exact fB)
 clear eJ4
 refine Ok.bv fun B8 eB8=>?_
 subst eB8
 refine Ok.lp (fun s8:Int × Int=>(0≤s8.2∧s8.2≤(x1.length:Int))) (fun s8=>((x1.length:Int)-s8.2).toNat) fE fD fun s8 hs8 nextn8 ihn8=>?_
 refine Ok.bv fun z10 ez10=>Ok.it (fun c=>?_) (fun c=>?_)
 · try simp only [ez10,dT] at c
   refine Ok.ckf fC fun k1=>Ok.bv fun z15 ez15=>Ok.ob (lists_equal_tot) fun y17 ey17 hy17=>Ok.it (fun c=>?_) (fun c=>?_)
   · refine Ok.bv fun z19 ez19=>?_
     have rz19:=(wI64 ez19).1
     try replace ez19:=(wI64 ez19).2 oM
     refine Ok.bv fun z20 ez20=>?_
     have rz20:=(wI64 ez20).1
     try replace ez20:=(wI64 ez20).2 oM
     exact ihn8 _ fE fD
   · refine Ok.bv fun z21 ez21=>?_
     have rz21:=(wI64 ez21).1
     try replace ez21:=(wI64 ez21).2 oM
     exact ihn8 _ fE fD
 · try simp only [ez10,dF] at c
   exact hJ4 _ fA
theorem lists_SumIf_tot {x0:V} {x1:List (V)} (hl:x1.length≤1000) (hx:∀ x∈x1,Rt x):Ok (lists_SumIf x0 x1) (fun r=>Rt r∧(r.k=4∨r.k=1)):=by
 unfold lists_SumIf
 refine Ok.bv fun J4 eJ4=>?_
 have hJ4:∀ s4:(List (V)),(s4.length≤1000∧∀ x∈s4,Rt x)→Ok (J4 s4) (fun r=>Rt r∧(r.k=4∨r.k=1)):=by
  intro s4 hs4
  rw [eJ4]
  refine Ok.ob (lists_Sum_tot hs4.1 hs4.2) fun y6 ey6 hy6=>?_
  exact Ok.sm (by first|exact hy6|exact hy6.1|exact fB)
 clear eJ4
 refine Ok.bv fun B8 eB8=>?_
 subst eB8
 refine Ok.lp (fun s8:Int × (List (V))=>(0≤s8.1∧s8.1≤(x1.length:Int))∧(s8.2.length:Int)≤s8.1∧∀ x∈s8.2,Rt x) (fun s8=>((x1.length:Int)-s8.1).toNat) (by refine ⟨by simp only;omega,by simp,fun x hx=>?_⟩;cases hx) fD fun s8 hs8 nextn8 ihn8=>?_
 refine Ok.bv fun z11 ez11=>Ok.it (fun c=>?_) (fun c=>?_)
 · try simp only [ez11,dT] at c
   refine Ok.ckf fC fun k1=>Ok.bv fun z16 ez16=>?_
   have hz:=gelP hx ez16 oM
   refine Ok.ob (lists_equal_tot) fun y18 ey18 hy18=>Ok.it (fun c=>?_) (fun c=>?_)
   · refine Ok.ckf fC fun k2=>Ok.bv fun z23 ez23=>Ok.bv fun z24 ez24=>?_
     have rz24:=(wI64 ez24).1
     try replace ez24:=(wI64 ez24).2 oM
     exact ihn8 _ (by refine ⟨by simp only;omega,by simp only [ez23,List.length_append,List.length_singleton];omega,?_⟩;simp only [ez23];exact all_snoc hs8.2.2 hz) fD
   · refine Ok.bv fun z25 ez25=>?_
     have rz25:=(wI64 ez25).1
     try replace ez25:=(wI64 ez25).2 oM
     exact ihn8 _ (by refine ⟨by simp only;omega,by simp only;omega,hs8.2.2⟩) fD
 · try simp only [ez11,dF] at c
   exact hJ4 _ (by exact ⟨oM,hs8.2.2⟩)
theorem lists_Match_tot {x0:V} {x1:List (V)} (hl:x1.length≤1000):Ok (lists_Match x0 x1) (fun r=>Rt r∧(r.k=4∨r.k=1)):=by
 unfold lists_Match
 refine Ok.bv fun J4 eJ4=>?_
 have hJ4:∀ s4:Int × Int × (List UInt8),(True)→Ok (J4 s4) (fun r=>Rt r∧(r.k=4∨r.k=1)):=by
  intro s4 hs4
  rw [eJ4]
  refine Ok.ob (value_Fail_tot fA) fun y5 ey5 hy5=>?_
  exact Ok.sm (by first|exact hy5|exact hy5.1|exact fB)
 clear eJ4
 refine Ok.bv fun B7 eB7=>?_
 subst eB7
 refine Ok.lp (fun s7:Int × Int × Int × (List UInt8)=>(0≤s7.1∧s7.1≤(x1.length:Int))) (fun s7=>((x1.length:Int)-s7.1).toNat) fE fD fun s7 hs7 nextn7 ihn7=>?_
 refine Ok.bv fun z9 ez9=>Ok.it (fun c=>?_) (fun c=>?_)
 · try simp only [ez9,dT] at c
   refine Ok.ckf fC fun k1=>Ok.bv fun z14 ez14=>Ok.ob (lists_equal_tot) fun y16 ey16 hy16=>Ok.it (fun c=>?_) (fun c=>?_)
   · refine Ok.bv fun z18 ez18=>?_
     have rz18:=(wI64 ez18).1
     try replace ez18:=(wI64 ez18).2 oM
     refine Ok.ob (num_Of_tot) fun y19 ey19 hy19=>Ok.ob (value_Made_tot (fun _=>hy19)) fun y20 ey20 hy20=>?_
     exact Ok.sm (by first|exact hy20|exact hy20.1|exact fB)
   · refine Ok.bv fun z21 ez21=>?_
     have rz21:=(wI64 ez21).1
     try replace ez21:=(wI64 ez21).2 oM
     exact ihn7 _ fE fD
 · try simp only [ez9,dF] at c
   exact hJ4 _ fA
theorem maths_power_tot {x0:Int} {x1:Int} (h0:-9223372036854775808≤x0∧x0≤9223372036854775807) (h1:x1≤64):Ok (maths_power x0 x1) (fun r=>Rt r∧(r.k=4∨r.k=1)):=by
 unfold maths_power
 refine Ok.ob (num_Of_tot) fun y2 ey2 hy2=>Ok.bv fun J4 eJ4=>?_
 have hJ4:∀ s4:Int × Bool,(-9223372036854775807≤s4.1∧s4.1≤9223372036854775807)→Ok (J4 s4) (fun r=>Rt r∧(r.k=4∨r.k=1)):=by
  intro s4 hs4
  rw [eJ4]
  refine Ok.ob (value_Made_tot (fun _=>hs4)) fun y5 ey5 hy5=>?_
  exact Ok.sm (by first|exact hy5|exact hy5.1|exact fB)
 clear eJ4
 refine Ok.bv fun B7 eB7=>?_
 subst eB7
 refine Ok.lp (fun s7:Int × Bool × Int=>(0≤s7.2.2)∧-9223372036854775807≤s7.1∧s7.1≤9223372036854775807) (fun s7=>(x1-s7.2.2).toNat) fE fD fun s7 hs7 nextn7 ihn7=>?_
 refine Ok.bv fun z9 ez9=>Ok.it (fun c=>?_) (fun c=>?_)
 · try simp only [ez9,dT] at c
   refine Ok.it (fun c=>?_) (fun c=>?_)
   · refine Ok.ob (num_Mul_tot oM oM) fun y14 ey14 hy14=>Ok.bv fun z15 ez15=>?_
     have rz15:=(wI64 ez15).1
     try replace ez15:=(wI64 ez15).2 oM
     exact ihn7 _ fE fD
   · refine Ok.bv fun z16 ez16=>?_
     have rz16:=(wI64 ez16).1
     try replace ez16:=(wI64 ez16).2 oM
     exact ihn7 _ fE fD
 · try simp only [ez9,dF] at c
   exact hJ4 _ fA
theorem lists_Product_tot {x0:List (V)} (hl:x0.length≤1000) (hx:∀ x∈x0,Rt x):Ok (lists_Product x0) (fun r=>Rt r∧(r.k=4∨r.k=1)):=by
 unfold lists_Product
 refine Ok.ob (lists_numbers_tot fA fA) fun y2 ey2 hy2=>?_
 obtain ⟨hyl,hyy⟩:=hy2
 refine Ok.bv fun z5 ez5=>Ok.it (fun c=>?_) (fun c=>?_)
 · try simp only [ez5,dT] at c
   refine Ok.ob (value_Num_tot fA) fun y7 ey7 hy7=>?_
   exact Ok.sm (by first|exact hy7|exact hy7.1|exact fB)
 · try simp only [ez5,dF] at c
   refine Ok.ckf fC fun k1=>Ok.bv fun z9 ez9=>?_
   have gz9:=gelP hyy ez9 oM
   have hz:=gelP hyy ez9 oM
   refine Ok.bv fun J11 eJ11=>?_
   have hJ11:∀ s11:Int × Bool,(-9223372036854775807≤s11.1∧s11.1≤9223372036854775807)→Ok (J11 s11) (fun r=>Rt r∧(r.k=4∨r.k=1)):=by
    intro s11 hs11
    rw [eJ11]
    refine Ok.ob (value_Made_tot (fun _=>hs11)) fun y12 ey12 hy12=>?_
    exact Ok.sm (by first|exact hy12|exact hy12.1|exact fB)
   clear eJ11
   refine Ok.ckf fC fun k2=>Ok.bv fun z14 ez14=>?_
   have lz14:=cutL_len y2 (1:Int) (y2.length:Int) oM
   rw [←ez14] at lz14
   have az14:=all_cut hyy (1:Int) (y2.length:Int)
   rw [←ez14] at az14
   refine Ok.bv fun B17 eB17=>?_
   subst eB17
   refine Ok.lp (fun s17:Int × Bool × Int=>(0≤s17.2.2∧s17.2.2≤(z14.length:Int))∧(-9223372036854775807≤s17.1∧s17.1≤9223372036854775807)) (fun s17=>((z14.length:Int)-s17.2.2).toNat) fE fD fun s17 hs17 nextn17 ihn17=>?_
   refine Ok.bv fun z19 ez19=>Ok.it (fun c=>?_) (fun c=>?_)
   · try simp only [ez19,dT] at c
     refine Ok.ckf fC fun k3=>Ok.bv fun z24 ez24=>?_
     have hz2:=gelP az14 ez24 oM
     refine Ok.it (fun c=>?_) (fun c=>?_)
     · refine Ok.ob (num_Mul_tot oM oM) fun y26 ey26 hy26=>Ok.bv fun z27 ez27=>?_
       have rz27:=(wI64 ez27).1
       try replace ez27:=(wI64 ez27).2 oM
       exact ihn17 _ fE fD
     · refine Ok.bv fun z28 ez28=>?_
       have rz28:=(wI64 ez28).1
       try replace ez28:=(wI64 ez28).2 oM
       exact ihn17 _ fE fD
   · try simp only [ez19,dF] at c
     exact hJ11 _ fA
theorem lists_Average_tot {x0:List (V)} (hl:x0.length≤1000) (hx:∀ x∈x0,Rt x):Ok (lists_Average x0) (fun r=>Rt r∧(r.k=4∨r.k=1)):=by
 unfold lists_Average
 refine Ok.ob (lists_Sum_tot fA fA) fun y2 ey2 hy2=>?_
 have hn:=hy2.1.n
 refine Ok.ob (lists_numbers_tot fA fA) fun y4 ey4 hy4=>Ok.bv fun z7 ez7=>Ok.it (fun c=>?_) (fun c=>?_)
 · try simp only [ez7,dT] at c
   refine Ok.ob (value_Fail_tot fA) fun y9 ey9 hy9=>?_
   exact Ok.sm (by first|exact hy9|exact hy9.1|exact fB)
 · try simp only [ez7,dF] at c
   refine Ok.bv fun z11 ez11=>Ok.it (fun c=>?_) (fun c=>?_)
   · try simp only [ez11,dT] at c
     exact Ok.sm (by first|exact hy2|exact hy2.1|exact fB)
   · try simp only [ez11,dF] at c
     refine Ok.bv fun z13 ez13=>?_
     have rz13:=(wI64 ez13).1
     try replace ez13:=(wI64 ez13).2 oM
     refine Ok.ob (num_Quo_tot oM oM) fun y14 ey14 hy14=>Ok.ob (value_Made_tot (fun _=>hy14)) fun y15 ey15 hy15=>?_
     exact Ok.sm (by first|exact hy15|exact hy15.1|exact fB)
end Go.Sp
end
section
set_option maxRecDepth 100000
namespace Go.Sp
open Go.Stp Go.ValP
theorem cutS_len (l:List UInt8) (a b:Int) (h:0≤a∧a≤b∧b≤(l.length:Int)):((cutS l a b).length:Int)=b-a:=by
 rw [cutS_length]
 omega
theorem lens_le:∀ {l:List (List UInt8)},(∀ t∈l,t.length≤64)→Lib.lens l≤64*l.length
 |[],_=>by simp [Lib.lens]
 |a::l,h=>by
  have h1:=h a (List.mem_cons_self ..)
  have h2:=lens_le (l:=l) fun t ht=>h t (List.mem_cons_of_mem _ ht)
  have e:Lib.lens (a::l)=a.length+Lib.lens l:=by simp [Lib.lens]
  rw [e,List.length_cons]
  omega
theorem join_le {l:List (List UInt8)} (h:∀ t∈l,t.length≤64):(Lib.join l []).length≤64*l.length:=by
 cases l with
 |nil=>simp [Lib.join]
 |cons a l=>
  rw [Lib.join_length,List.length_nil,Nat.zero_mul,Nat.zero_add]
  exact lens_le h
theorem rep_le {a b c:List UInt8} (ha:a.length≤64) (hb:1≤b.length) (hc:c.length≤64):a.length<4294967281∧1≤b.length∧a.length+Lib.countB ⟨a.toArray⟩ ⟨b.toArray⟩*c.length≤140737488355328:=by
 refine ⟨oM,hb,?_⟩
 have h:=Lib.countB_le ⟨b.toArray⟩ hb a.length ⟨a.toArray⟩ (Nat.le_refl _)
 have h2:Lib.countB ⟨a.toArray⟩ ⟨b.toArray⟩≤64:=Nat.le_trans h ha
 have:=Nat.mul_le_mul h2 hc
 omega
theorem ofB_ok (l:List UInt8):(ofB l).length=l.length∧bytesOk (ofB l)=true:=by
 refine ⟨by simp [ofB],?_⟩
 unfold bytesOk ofB
 rw [List.all_map,List.all_eq_true]
 intro x _
 have:=x.toNat_lt
 simp
 omega
theorem lists_Index_tot {x0:Int} {x1:Int} {x2:Int} {x3:List (V)} (hl:x3.length≤1000) (hx:∀ x∈x3,Rt x) (h0:x0=1∨x0=2) (h1:-9223372036854775808≤x1∧x1≤9223372036854775807) (h2:-9223372036854775808≤x2∧x2≤9223372036854775807):Ok (lists_Index x0 x1 x2 x3) (Rt):=by
 rcases h0 with rfl|rfl
 all_goals
  unfold lists_Index
  refine Ok.bv fun z3 ez3=>Ok.bv fun z4 ez4=>Ok.bv fun z5 ez5=>Ok.bv fun z6 ez6=>Ok.bv fun z7 ez7=>Ok.bv fun z8 ez8=>Ok.bv fun z9 ez9=>Ok.ckf (by first|(simp only [ez9,ez8,ez7,ez6,ez5,ez4,ez3,BL];omega)|(simp [ez9,ez8,ez7,ez6,ez5,ez4,ez3];omega)|(simp [ez9,ez8,ez7,ez6,ez5,ez4,ez3];done)|exact fC) fun k1=>Ok.bv fun z11 ez11=>?_
  rw [Int.tdiv_eq_ediv_of_nonneg oM] at ez11
  try have qz11:=tdiv_nat (x3.length:Int) x0
  have rz11:=(wI64 ez11).1
  try replace ez11:=(wI64 ez11).2 oM
  refine Ok.bv fun z12 ez12=>Ok.bv fun z13 ez13=>Ok.it (fun c=>?_) (fun c=>?_)
  · try simp only [ez13,ez12,ez9,ez8,ez7,ez6,ez5,ez4,ez3,BL] at c
    refine Ok.ob (value_Fail_tot fA) fun y15 ey15 hy15=>?_
    exact Ok.sm (by first|exact hy15|exact hy15.1|exact fB)
  · try simp only [ez13,ez12,ez9,ez8,ez7,ez6,ez5,ez4,ez3,BL] at c
    refine Ok.bv fun z16 ez16=>?_
    have rz16:=(wI64 ez16).1
    try replace ez16:=(wI64 ez16).2 oM
    refine Ok.bv fun z17 ez17=>?_
    have rz17:=(wI64 ez17).1
    try replace ez17:=(wI64 ez17).2 oM
    refine Ok.bv fun z18 ez18=>?_
    have rz18:=(wI64 ez18).1
    try replace ez18:=(wI64 ez18).2 oM
    refine Ok.bv fun z19 ez19=>?_
    have rz19:=(wI64 ez19).1
    try replace ez19:=(wI64 ez19).2 oM
    refine Ok.ckf fC fun k2=>Ok.bv fun z21 ez21=>?_
    exact Ok.sm (by first|exact gelP (by assumption) ez21 oM|exact fB)
theorem lists_VLookup_tot {x0:V} {x1:Int} {x2:Int} {x3:List (V)} (hl:x3.length≤1000) (hx:∀ x∈x3,Rt x) (h1:1≤x1∧x1≤1000) (h2:-9223372036854775808≤x2∧x2≤9223372036854775807):Ok (lists_VLookup x0 x1 x2 x3) (Rt):=by
 unfold lists_VLookup
 refine Ok.bv fun z4 ez4=>Ok.bv fun z5 ez5=>Ok.bv fun z6 ez6=>Ok.bv fun z7 ez7=>Ok.bv fun z8 ez8=>Ok.it (fun c=>?_) (fun c=>?_)
 · try simp only [ez8,ez7,ez6,ez5,ez4,BL] at c
   refine Ok.ob (value_Fail_tot fA) fun y10 ey10 hy10=>?_
   exact Ok.sm (by first|exact hy10|exact hy10.1|exact fB)
 · try simp only [ez8,ez7,ez6,ez5,ez4,BL] at c
   refine Ok.bv fun J12 eJ12=>?_
   have hJ12:∀ s12:Int × Int × (List UInt8),(True)→Ok (J12 s12) (Rt):=by
    intro s12 hs12
    rw [eJ12]
    refine Ok.ob (value_Fail_tot fA) fun y13 ey13 hy13=>?_
    exact Ok.sm (by first|exact hy13|exact hy13.1|exact fB)
   clear eJ12
   refine Ok.bv fun B15 eB15=>?_
   subst eB15
   refine Ok.lp (fun s15:Int × Int × Int × (List UInt8)=>0≤s15.1∧s15.1≤2000) (fun s15=>(2000-s15.1).toNat) fE fD fun s15 hs15 nextn15 ihn15=>?_
   refine Ok.bv fun z18 ez18=>?_
   have rz18:=(wI64 ez18).1
   try replace ez18:=(wI64 ez18).2 oM
   refine Ok.bv fun z19 ez19=>Ok.it (fun c=>?_) (fun c=>?_)
   · try simp only [ez19,dT] at c
     refine Ok.ckf fC fun k1=>Ok.bv fun z23 ez23=>Ok.ob (lists_equal_tot) fun y24 ey24 hy24=>Ok.it (fun c=>?_) (fun c=>?_)
     · refine Ok.bv fun z26 ez26=>?_
       have rz26:=(wI64 ez26).1
       try replace ez26:=(wI64 ez26).2 oM
       refine Ok.bv fun z27 ez27=>?_
       have rz27:=(wI64 ez27).1
       try replace ez27:=(wI64 ez27).2 oM
       refine Ok.ckf fC fun k2=>Ok.bv fun z29 ez29=>?_
       exact Ok.sm (by first|exact gelP (by assumption) ez29 oM|exact fB)
     · refine Ok.bv fun z30 ez30=>?_
       have rz30:=(wI64 ez30).1
       try replace ez30:=(wI64 ez30).2 oM
       exact ihn15 _ fE fD
   · try simp only [ez19,dF] at c
     exact hJ12 _ fA
theorem texts_trimmed_tot {x0:List UInt8} (hl:x0.length≤100000):Ok (texts_trimmed x0) (fun r=>r.length≤x0.length):=by
 unfold texts_trimmed
 refine Ok.bv fun J2 eJ2=>?_
 have hJ2:∀ s2:(List UInt8),(s2.length≤x0.length)→Ok (J2 s2) (fun r=>r.length≤x0.length):=by
  intro s2 hs2
  rw [eJ2]
  exact Ok.sm fB
 clear eJ2
 refine Ok.bv fun B4 eB4=>?_
 subst eB4
 refine Ok.lp (fun s4:(List UInt8) × Bool × Int=>(0≤s4.2.2∧s4.2.2≤(x0.length:Int))∧((s4.1.length:Int)+(if s4.2.1=true then 1 else 0)≤s4.2.2)) (fun s4=>((x0.length:Int)-s4.2.2).toNat) fE fD fun s4 hs4 nextn4 ihn4=>?_
 refine Ok.bv fun z6 ez6=>Ok.it (fun c=>?_) (fun c=>?_)
 · try simp only [ez6,dT] at c
   refine Ok.ckf fC fun k1=>Ok.bv fun z12 ez12=>Ok.bv fun z13 ez13=>Ok.it (fun c=>?_) (fun c=>?_)
   · try simp only [ez13,dT] at c
     have h1:(s4.1.length:Int)≤s4.2.2:=by have h1:=hs4.2;split at h1<;>omega
     refine Ok.bv fun z15 ez15=>Ok.bv fun z16 ez16=>?_
     have rz16:=(wI64 ez16).1
     try replace ez16:=(wI64 ez16).2 oM
     exact ihn4 _ (by refine ⟨by simp only;omega,?_⟩;simp only;split<;>omega) fD
   · try simp only [ez13,dF] at c
     refine Ok.bv fun J18 eJ18=>?_
     have hJ18:∀ s18:(List UInt8),((s18.length:Int)≤s4.2.2)→Ok (J18 s18) (fun r=>r.length≤x0.length):=by
      intro s18 hs18
      rw [eJ18]
      refine Ok.bv fun z19 ez19=>?_
      have rz19:=(wI64 ez19).1
      try replace ez19:=(wI64 ez19).2 oM
      refine Ok.ckf fC fun k2=>Ok.bv fun z21 ez21=>?_
      have hc:=cutS_len x0 s4.2.2 z19 oM
      rw [←ez21] at hc
      refine Ok.ckf fC fun k3=>Ok.bv fun z23 ez23=>?_
      have ha:z23.length=s18.length+z21.length:=by rw [ez23,List.length_append]
      refine Ok.bv fun z24 ez24=>?_
      have rz24:=(wI64 ez24).1
      try replace ez24:=(wI64 ez24).2 oM
      exact ihn4 _ fE fD
     clear eJ18
     refine Ok.it (fun c=>?_) (fun c=>?_)
     · rw [if_pos c] at hs4
       refine Ok.ckf fC fun k4=>Ok.bv fun z27 ez27=>?_
       have ha:z27.length=s4.1.length+1:=by rw [ez27,List.length_append];rfl
       exact hJ18 _ fA
     · rw [if_neg (by simp [c])] at hs4
       exact hJ18 _ fA
 · try simp only [ez6,dF] at c
   exact hJ2 _ (by have h1:=hs4.2;split at h1<;>omega)
theorem texts_runes_tot {x0:List UInt8} (hl:x0.length≤100000):Ok (texts_runes x0) (fun _=>True):=by
 unfold texts_runes
 refine Ok.bv fun J2 eJ2=>?_
 have hJ2:∀ s2:Int,(True)→Ok (J2 s2) (fun _=>True):=by
  intro s2 hs2
  rw [eJ2]
  exact Ok.sm fB
 clear eJ2
 refine Ok.bv fun B5 eB5=>?_
 subst eB5
 refine Ok.lp (fun s5:Int × Nat=>True) (fun s5=>x0.length-s5.2) fE fD fun s5 hs5 nextn5 ihn5=>?_
 refine Ok.bv fun z7 ez7=>Ok.it (fun c=>?_) (fun c=>?_)
 · try simp only [ez7,dT] at c
   have hn:=nextP_gt c
   refine Ok.bv fun z11 ez11=>?_
   have rz11:=(wI64 ez11).1
   try replace ez11:=(wI64 ez11).2 oM
   exact ihn5 _ fE fD
 · try simp only [ez7,dF] at c
   exact hJ2 _ fA
theorem texts_count_tot {x0:Int} {x1:List UInt8} (hl:x1.length≤100000) (h0:-9223372036854775807≤x0∧x0≤9223372036854775807):Ok (texts_count x0 x1) (fun r=>(0≤r.1∧r.1≤(x1.length:Int))∧(r.2=true→0≤Int.tdiv x0 1000000)):=by
 unfold texts_count
 refine Ok.bv fun z1 ez1=>?_
 try have qz1:=tdiv_nat x0 1000000
 have rz1:=(wI64 ez1).1
 try replace ez1:=(wI64 ez1).2 oM
 refine Ok.bv fun z2 ez2=>Ok.bv fun z3 ez3=>Ok.bv fun z4 ez4=>?_
 exact Ok.sm (by refine ⟨by simp only;omega,fun h=>?_⟩;simp only at h;rw [ez4,dT] at h;omega)
theorem texts_turned_tot {x0:List UInt8} {x1:Int} {x2:Int} (hl:x0.length≤100000):Ok (texts_turned x0 x1 x2) (fun r=>r.length=x0.length):=by
 unfold texts_turned
 refine Ok.bv fun z2 ez2=>?_
 have hob:z2.length=x0.length∧bytesOk z2=true:=by rw [ez2];exact ofB_ok x0
 refine Ok.bv fun J4 eJ4=>?_
 have hJ4:∀ s4:(List Int),(s4.length=x0.length∧bytesOk s4=true)→Ok (J4 s4) (fun r=>r.length=x0.length):=by
  intro s4 hs4
  rw [eJ4]
  refine Ok.ckf (by exact hs4.2) fun k1=>Ok.bv fun z6 ez6=>?_
  exact Ok.sm (by rw [ez6];simpa [toB] using hs4.1)
 clear eJ4
 refine Ok.bv fun B8 eB8=>?_
 subst eB8
 refine Ok.lp (fun s8:Int × (List Int)=>(0≤s8.1∧s8.1≤(z2.length:Int))∧s8.2.length=x0.length∧bytesOk s8.2=true) (fun s8=>((z2.length:Int)-s8.1).toNat) (by exact ⟨by simp only;omega,hob⟩) fD fun s8 hs8 nextn8 ihn8=>Ok.bv fun z10 ez10=>Ok.it (fun c=>?_) (fun c=>?_)
 · try simp only [ez10,dT] at c
   refine Ok.ckf fC fun k2=>Ok.bv fun z15 ez15=>Ok.bv fun z16 ez16=>Ok.bv fun z17 ez17=>?_
   have rz17:=(wU8 ez17).1
   try replace ez17:=(wU8 ez17).2 oM
   refine Ok.bv fun z18 ez18=>Ok.bv fun z19 ez19=>Ok.it (fun c=>?_) (fun c=>?_)
   · try simp only [ez19,ez18,ez16,BL] at c
     refine Ok.bv fun z21 ez21=>?_
     have rz21:=(wU8 ez21).1
     try replace ez21:=(wU8 ez21).2 oM
     refine Ok.bv fun z22 ez22=>?_
     have rz22:=(wU8 ez22).1
     try replace ez22:=(wU8 ez22).2 oM
     refine Ok.ckf fC fun k3=>Ok.bv fun zb24 ezb24=>Ok.bv fun z25 ez25=>?_
     have rz25:=(wI64 ez25).1
     try replace ez25:=(wI64 ez25).2 oM
     exact ihn8 _ (by refine ⟨by simp only;omega,by simp only [ezb24,List.length_set];omega,?_⟩;simp only [ezb24];exact bOk_set hs8.2.2 _ rz22) fD
   · try simp only [ez19,ez18,ez16,BL] at c
     refine Ok.bv fun z26 ez26=>?_
     have rz26:=(wI64 ez26).1
     try replace ez26:=(wI64 ez26).2 oM
     exact ihn8 _ (by exact ⟨by simp only;omega,hs8.2⟩) fD
 · try simp only [ez10,dF] at c
   exact hJ4 _ (by exact hs8.2)
theorem value_ToNum_rt {x0:V} (h:Rt x0):Ok (value_ToNum x0) (fun r=>Rt r∧(r.k=4∨r.k=1)):=by
 unfold value_ToNum
 refine Ok.bv fun J6 eJ6=>?_
 have hJ6:∀ s6:Bool,(s6=true→x0.k=1∨x0.k=4)→Ok (J6 s6) (fun r=>Rt r∧(r.k=4∨r.k=1)):=by
  intro s6 hs6
  rw [eJ6]
  have hsl:=h.len
  refine Ok.it (fun c=>?_) (fun c=>?_)
  · exact Ok.sm (by exact ⟨h,(hs6 c).symm⟩)
  · refine Ok.bv fun z8 ez8=>Ok.it (fun c=>?_) (fun c=>?_)
    · try simp only [ez8,dT] at c
      refine Ok.ob (value_Num_tot fA) fun y10 ey10 hy10=>?_
      exact Ok.sm (by first|exact hy10|exact hy10.1|exact fB)
    · try simp only [ez8,dF] at c
      refine Ok.bv fun z11 ez11=>Ok.it (fun c=>?_) (fun c=>?_)
      · try simp only [ez11,dT] at c
        have hn:x0.n=0∨x0.n=1:=by unfold Rt at h;omega
        refine Ok.bv fun z13 ez13=>?_
        have rz13:=(wI64 ez13).1
        try replace ez13:=(wI64 ez13).2 oM
        refine Ok.ob (value_Num_tot oM) fun y14 ey14 hy14=>?_
        exact Ok.sm (by first|exact hy14|exact hy14.1|exact fB)
      · try simp only [ez11,dF] at c
        refine Ok.bv fun z16 ez16=>?_
        have ht:=trim_len x0.s [45]
        refine Ok.ob (num_Parse_tot _ (by rw [ez16];simp only;omega)) fun y17 ey17 hy17=>Ok.bv fun z19 ez19=>Ok.it (fun c=>?_) (fun c=>?_)
        · try simp only [ez19,BL] at c
          refine Ok.ob (value_Fail_tot fA) fun y21 ey21 hy21=>?_
          exact Ok.sm (by first|exact hy21|exact hy21.1|exact fB)
        · try simp only [ez19,BL] at c
          refine Ok.bv fun J23 eJ23=>?_
          have hJ23:∀ s23:Int,(-9223372036854775807≤s23∧s23≤9223372036854775807)→Ok (J23 s23) (fun r=>Rt r∧(r.k=4∨r.k=1)):=by
           intro s23 hs23
           rw [eJ23]
           refine Ok.ob (value_Num_tot hs23) fun y24 ey24 hy24=>?_
           exact Ok.sm (by first|exact hy24|exact hy24.1|exact fB)
          clear eJ23
          refine Ok.it (fun c=>?_) (fun c=>?_)
          · refine Ok.bv fun z26 ez26=>?_
            have rz26:=(wI64 ez26).1
            try replace ez26:=(wI64 ez26).2 oM
            exact hJ23 _ oM
          · exact hJ23 _ oM
 clear eJ6
 refine Ok.bv fun z27 ez27=>Ok.it (fun c=>?_) (fun c=>?_)
 · try simp only [ez27,dT] at c
   exact hJ6 _ (by intro g;rw [ez27,dT] at g;exact .inl g)
 · try simp only [ez27,dF] at c
   refine Ok.bv fun z29 ez29=>?_
   exact hJ6 _ (by intro g;rw [ez29,dT] at g;exact .inr g)
theorem value_ToBool_tot {x0:V} (h:Rt x0):Ok (value_ToBool x0) (Rt):=by
 unfold value_ToBool
 refine Ok.bv fun J6 eJ6=>?_
 have hJ6:∀ s6:Bool,(True)→Ok (J6 s6) (Rt):=by
  intro s6 hs6
  rw [eJ6]
  refine Ok.it (fun c=>?_) (fun c=>?_)
  · exact Ok.sm (by exact h)
  · refine Ok.bv fun z8 ez8=>Ok.it (fun c=>?_) (fun c=>?_)
    · try simp only [ez8,dT] at c
      refine Ok.ob (value_Bool_tot) fun y10 ey10 hy10=>?_
      exact Ok.sm (by first|exact hy10|exact hy10.1|exact fB)
    · try simp only [ez8,dF] at c
      refine Ok.bv fun z11 ez11=>Ok.it (fun c=>?_) (fun c=>?_)
      · try simp only [ez11,dT] at c
        refine Ok.bv fun z13 ez13=>Ok.ob (value_Bool_tot) fun y14 ey14 hy14=>?_
        exact Ok.sm (by first|exact hy14|exact hy14.1|exact fB)
      · try simp only [ez11,dF] at c
        refine Ok.bv fun z16 ez16=>Ok.bv fun z17 ez17=>Ok.bv fun z18 ez18=>Ok.it (fun c=>?_) (fun c=>?_)
        · try simp only [ez18,ez17,ez16,BL] at c
          refine Ok.bv fun z20 ez20=>Ok.ob (value_Bool_tot) fun y21 ey21 hy21=>?_
          exact Ok.sm (by first|exact hy21|exact hy21.1|exact fB)
        · try simp only [ez18,ez17,ez16,BL] at c
          refine Ok.ob (value_Fail_tot fA) fun y22 ey22 hy22=>?_
          exact Ok.sm (by first|exact hy22|exact hy22.1|exact fB)
 clear eJ6
 refine Ok.bv fun z23 ez23=>Ok.it (fun c=>?_) (fun c=>?_)
 · try simp only [ez23,dT] at c
   exact hJ6 _ fA
 · try simp only [ez23,dF] at c
   refine Ok.bv fun z25 ez25=>?_
   exact hJ6 _ fA
theorem value_ToText_tot {x0:V} (h:Rt x0):Ok (value_ToText x0) (Rt):=by
 unfold value_ToText
 refine Ok.bv fun z4 ez4=>Ok.it (fun c=>?_) (fun c=>?_)
 · try simp only [ez4,dT] at c
   exact Ok.sm (by exact h)
 · try simp only [ez4,dF] at c
   refine Ok.ob (value_Show_rt h c) fun y6 ey6 hy6=>Ok.ob (value_Text_tot) fun y7 ey7 hy7=>?_
   exact Ok.sm (by first|exact hy7|exact hy7.1|exact fB)
theorem texts_One_tot {x0:List UInt8} {x1:List UInt8} (hl:x1.length≤64):Ok (texts_One x0 x1) (Rt):=by
 unfold texts_One
 refine Ok.bv fun z4 ez4=>Ok.it (fun c=>?_) (fun c=>?_)
 · try simp only [ez4,dT] at c
   refine Ok.ob (texts_runes_tot fA) fun y6 ey6 hy6=>Ok.ob (num_Of_tot) fun y7 ey7 hy7=>Ok.ob (value_Made_tot (fun _=>hy7)) fun y8 ey8 hy8=>?_
   exact Ok.sm (by first|exact hy8|exact hy8.1|exact fB)
 · try simp only [ez4,dF] at c
   refine Ok.bv fun z9 ez9=>Ok.it (fun c=>?_) (fun c=>?_)
   · try simp only [ez9,dT] at c
     refine Ok.ob (texts_turned_tot fA) fun y11 ey11 hy11=>Ok.ob (value_Text_tot) fun y12 ey12 hy12=>?_
     exact Ok.sm (by first|exact hy12|exact hy12.1|exact fB)
   · try simp only [ez9,dF] at c
     refine Ok.bv fun z13 ez13=>Ok.it (fun c=>?_) (fun c=>?_)
     · try simp only [ez13,dT] at c
       refine Ok.ob (texts_turned_tot fA) fun y15 ey15 hy15=>Ok.ob (value_Text_tot) fun y16 ey16 hy16=>?_
       exact Ok.sm (by first|exact hy16|exact hy16.1|exact fB)
     · try simp only [ez13,dF] at c
       refine Ok.bv fun z17 ez17=>Ok.it (fun c=>?_) (fun c=>?_)
       · try simp only [ez17,dT] at c
         refine Ok.ob (texts_trimmed_tot fA) fun y19 ey19 hy19=>Ok.ob (value_Text_tot) fun y20 ey20 hy20=>?_
         exact Ok.sm (by first|exact hy20|exact hy20.1|exact fB)
       · try simp only [ez17,dF] at c
         refine Ok.bv fun z21 ez21=>Ok.it (fun c=>?_) (fun c=>?_)
         · try simp only [ez21,dT] at c
           refine Ok.ob (value_ToNum_rt (.inr (.inr (.inl ⟨rfl,rfl,hl⟩)))) fun y23 ey23 hy23=>?_
           exact Ok.sm (by first|exact hy23|exact hy23.1|exact fB)
         · try simp only [ez21,dF] at c
           refine Ok.ob (value_Fail_tot fA) fun y24 ey24 hy24=>?_
           exact Ok.sm (by first|exact hy24|exact hy24.1|exact fB)
theorem texts_Part_tot {x0:List UInt8} {x1:List UInt8} {x2:List (Int)} (hl:x1.length≤64) (h2:x2.length≤10) (hx:∀ x∈x2,-9223372036854775807≤x∧x≤9223372036854775807) (hr:x0=[82,69,80,84]→x2.length=1):Ok (texts_Part x0 x1 x2) (Rt):=by
 unfold texts_Part
 refine Ok.bv fun z3 ez3=>Ok.it (fun c=>?_) (fun c=>?_)
 · try simp only [ez3,dT] at c
   refine Ok.ob (value_Fail_tot fA) fun y5 ey5 hy5=>?_
   exact Ok.sm (by first|exact hy5|exact hy5.1|exact fB)
 · try simp only [ez3,dF] at c
   refine Ok.bv fun z6 ez6=>?_
   have rz6:=(wI64 ez6).1
   try replace ez6:=(wI64 ez6).2 oM
   refine Ok.ckf fC fun k1=>Ok.bv fun z8 ez8=>?_
   have hz21:=gelP hx ez8 oM
   refine Ok.ob (texts_count_tot oM hz21) fun y9 ey9 hy9=>Ok.bv fun z11 ez11=>Ok.it (fun c=>?_) (fun c=>?_)
   · try simp only [ez11,BL] at c
     refine Ok.ob (value_Fail_tot fA) fun y13 ey13 hy13=>?_
     exact Ok.sm (by first|exact hy13|exact hy13.1|exact fB)
   · try simp only [ez11,BL] at c
     have hp:=hy9.2 c
     refine Ok.bv fun z16 ez16=>Ok.it (fun c=>?_) (fun c=>?_)
     · try simp only [ez16,dT] at c
       refine Ok.ckf fC fun k2=>Ok.bv fun z19 ez19=>Ok.ob (value_Text_tot) fun y20 ey20 hy20=>?_
       exact Ok.sm (by first|exact hy20|exact hy20.1|exact fB)
     · try simp only [ez16,dF] at c
       refine Ok.bv fun z21 ez21=>Ok.it (fun c=>?_) (fun c=>?_)
       · try simp only [ez21,dT] at c
         refine Ok.bv fun z23 ez23=>?_
         have rz23:=(wI64 ez23).1
         try replace ez23:=(wI64 ez23).2 oM
         refine Ok.ckf fC fun k3=>Ok.bv fun z25 ez25=>Ok.ob (value_Text_tot) fun y26 ey26 hy26=>?_
         exact Ok.sm (by first|exact hy26|exact hy26.1|exact fB)
       · try simp only [ez21,dF] at c
         refine Ok.bv fun z27 ez27=>Ok.it (fun c=>?_) (fun c=>?_)
         · try simp only [ez27,dT] at c
           refine Ok.ckf fC fun k4=>Ok.bv fun z30 ez30=>Ok.bv fun z31 ez31=>?_
           try have qz31:=tdiv_nat z30 1000000
           have rz31:=(wI64 ez31).1
           try replace ez31:=(wI64 ez31).2 oM
           refine Ok.bv fun z33 ez33=>Ok.it (fun c=>?_) (fun c=>?_)
           · try simp only [ez33,dT] at c
             refine Ok.ob (value_Fail_tot fA) fun y35 ey35 hy35=>?_
             exact Ok.sm (by first|exact hy35|exact hy35.1|exact fB)
           · try simp only [ez33,dF] at c
             refine Ok.bv fun z36 ez36=>?_
             have rz36:=(wI64 ez36).1
             try replace ez36:=(wI64 ez36).2 oM
             refine Ok.bv fun z37 ez37=>Ok.bv fun z38 ez38=>?_
             have rz38:=(wI64 ez38).1
             try replace ez38:=(wI64 ez38).2 oM
             refine Ok.bv fun z39 ez39=>Ok.ckf fC fun k5=>Ok.bv fun z41 ez41=>Ok.ob (value_Text_tot) fun y42 ey42 hy42=>?_
             exact Ok.sm (by first|exact hy42|exact hy42.1|exact fB)
         · try simp only [ez27,dF] at c
           refine Ok.bv fun z43 ez43=>Ok.it (fun c=>?_) (fun c=>?_)
           · try simp only [ez43,dT] at c
             refine Ok.ckf fC fun k6=>Ok.bv fun z46 ez46=>?_
             have hr1:=hr c
             have hz0:z6=0:=oM
             rw [hz0] at ez8
             have hzz:z46=z8:=by rw [ez46,ez8]
             rw [←hzz] at hp
             refine Ok.bv fun z47 ez47=>?_
             try have qz47:=tdiv_nat z46 1000000
             have rz47:=(wI64 ez47).1
             try replace ez47:=(wI64 ez47).2 oM
             refine Ok.bv fun z49 ez49=>Ok.bv fun z50 ez50=>Ok.bv fun z51 ez51=>Ok.it (fun c=>?_) (fun c=>?_)
             · try simp only [ez51,ez50,ez49,BL] at c
               refine Ok.ob (value_Fail_tot fA) fun y53 ey53 hy53=>?_
               exact Ok.sm (by first|exact hy53|exact hy53.1|exact fB)
             · try simp only [ez51,ez50,ez49,BL] at c
               refine Ok.bv fun z54 ez54=>Ok.ckf (by refine ⟨by omega,by omega,?_⟩;exact Nat.le_trans (Nat.mul_le_mul hl (show z54.toNat≤64 by omega)) (by decide)) fun k7=>?_
               refine Ok.bv fun z57 ez57=>Ok.ob (value_Text_tot) fun y58 ey58 hy58=>?_
               exact Ok.sm (by first|exact hy58|exact hy58.1|exact fB)
           · try simp only [ez43,dF] at c
             refine Ok.ob (value_Fail_tot fA) fun y59 ey59 hy59=>?_
             exact Ok.sm (by first|exact hy59|exact hy59.1|exact fB)
theorem texts_More_tot {x0:List UInt8} {x1:List (List UInt8)} (h2:x1.length≤10) (hx:∀ t∈x1,t.length≤64):Ok (texts_More x0 x1) (Rt):=by
 unfold texts_More
 refine Ok.bv fun z3 ez3=>Ok.it (fun c=>?_) (fun c=>?_)
 · try simp only [ez3,dT] at c
   refine Ok.ckf (by have hj:=join_le hx;omega) fun k1=>Ok.bv fun z7 ez7=>Ok.ob (value_Text_tot) fun y8 ey8 hy8=>?_
   exact Ok.sm (by first|exact hy8|exact hy8.1|exact fB)
 · try simp only [ez3,dF] at c
   refine Ok.bv fun z9 ez9=>Ok.bv fun z10 ez10=>Ok.bv fun z11 ez11=>Ok.it (fun c=>?_) (fun c=>?_)
   · try simp only [ez11,ez10,ez9,BL] at c
     refine Ok.ckf fC fun k2=>Ok.bv fun z14 ez14=>Ok.ckf fC fun k3=>Ok.bv fun z16 ez16=>Ok.bv fun z17 ez17=>Ok.ob (value_Bool_tot) fun y18 ey18 hy18=>?_
     exact Ok.sm (by first|exact hy18|exact hy18.1|exact fB)
   · try simp only [ez11,ez10,ez9,BL] at c
     refine Ok.bv fun z19 ez19=>Ok.bv fun z20 ez20=>Ok.bv fun z21 ez21=>Ok.it (fun c=>?_) (fun c=>?_)
     · try simp only [ez21,ez20,ez19,BL] at c
       refine Ok.ckf fC fun k4=>Ok.bv fun z24 ez24=>?_
       have hz37:=gelP hx ez24 oM
       refine Ok.ckf fC fun k5=>Ok.bv fun z26 ez26=>Ok.ckf fC fun k6=>Ok.bv fun z29 ez29=>Ok.bv fun z31 ez31=>Ok.it (fun c=>?_) (fun c=>?_)
       · try simp only [ez31,dT] at c
         refine Ok.ob (value_Fail_tot fA) fun y33 ey33 hy33=>?_
         exact Ok.sm (by first|exact hy33|exact hy33.1|exact fB)
       · try simp only [ez31,dF] at c
         refine Ok.bv fun z34 ez34=>?_
         have rz34:=(wI64 ez34).1
         try replace ez34:=(wI64 ez34).2 oM
         refine Ok.ob (num_Of_tot) fun y35 ey35 hy35=>Ok.ob (value_Made_tot (fun _=>hy35)) fun y36 ey36 hy36=>?_
         exact Ok.sm (by first|exact hy36|exact hy36.1|exact fB)
     · try simp only [ez21,ez20,ez19,BL] at c
       refine Ok.bv fun z37 ez37=>Ok.bv fun z38 ez38=>Ok.bv fun z39 ez39=>Ok.it (fun c=>?_) (fun c=>?_)
       · try simp only [ez39,ez38,ez37,BL] at c
         refine Ok.ckf fC fun k7=>Ok.bv fun z43 ez43=>Ok.bv fun z44 ez44=>Ok.it (fun c=>?_) (fun c=>?_)
         · try simp only [ez44,dT] at c
           refine Ok.ckf fC fun k8=>Ok.bv fun z47 ez47=>Ok.ob (value_Text_tot) fun y48 ey48 hy48=>?_
           exact Ok.sm (by first|exact hy48|exact hy48.1|exact fB)
         · try simp only [ez44,dF] at c
           have hne0:1≤z43.length:=List.length_pos_iff.2 c
           refine Ok.ckf fC fun k9=>Ok.bv fun z50 ez50=>?_
           have hz69:=gelP hx ez50 oM
           refine Ok.ckf fC fun k10=>Ok.bv fun z52 ez52=>?_
           have h61:z52=z43:=by rw [ez52,ez43]
           refine Ok.ckf fC fun k11=>Ok.bv fun z54 ez54=>?_
           have hz75:=gelP hx ez54 oM
           refine Ok.ckf (by exact rep_le hz69 (by rw [h61];exact hne0) hz75) fun k12=>Ok.bv fun z57 ez57=>Ok.ob (value_Text_tot) fun y58 ey58 hy58=>?_
           exact Ok.sm (by first|exact hy58|exact hy58.1|exact fB)
       · try simp only [ez39,ez38,ez37,BL] at c
         refine Ok.ob (value_Fail_tot fA) fun y59 ey59 hy59=>?_
         exact Ok.sm (by first|exact hy59|exact hy59.1|exact fB)
end Go.Sp
end
section
set_option maxRecDepth 100000
namespace Go.Sp
open Go.Stp Go.ValP
theorem maths_One_tot {x0:List UInt8} {x1:Int} (h:-9223372036854775807≤x1∧x1≤9223372036854775807):Ok (maths_One x0 x1) (fun r=>Rt r∧(r.k=4∨r.k=1)):=by
 unfold maths_One
 refine Ok.bv fun J3 eJ3=>?_
 have hJ3:∀ s3:Int × Int × (List UInt8),(True)→Ok (J3 s3) (fun r=>Rt r∧(r.k=4∨r.k=1)):=by
  intro s3 hs3
  rw [eJ3]
  refine Ok.ob (value_Fail_tot fA) fun y4 ey4 hy4=>?_
  exact Ok.sm (by first|exact hy4|exact hy4.1|exact fB)
 clear eJ3
 refine Ok.bv fun z6 ez6=>Ok.it (fun c=>?_) (fun c=>?_)
 · try simp only [ez6,dT] at c
   refine Ok.bv fun z8 ez8=>?_
   have rz8:=(wI64 ez8).1
   try replace ez8:=(wI64 ez8).2 oM
   refine Ok.bv fun z9 ez9=>Ok.ob (value_Num_tot oM) fun y10 ey10 hy10=>?_
   exact Ok.sm (by first|exact hy10|exact hy10.1|exact fB)
 · try simp only [ez6,dF] at c
   refine Ok.bv fun z11 ez11=>Ok.it (fun c=>?_) (fun c=>?_)
   · try simp only [ez11,dT] at c
     refine Ok.bv fun z13 ez13=>Ok.bv fun z14 ez14=>Ok.ob (maths_back_tot) fun y15 ey15 hy15=>?_
     exact Ok.sm (by first|exact hy15|exact hy15.1|exact fB)
   · try simp only [ez11,dF] at c
     refine Ok.bv fun z16 ez16=>Ok.it (fun c=>?_) (fun c=>?_)
     · try simp only [ez16,dT] at c
       refine Ok.ob (num_Floor_tot) fun y18 ey18 hy18=>Ok.ob (value_Made_tot hy18) fun y19 ey19 hy19=>?_
       exact Ok.sm (by first|exact hy19|exact hy19.1|exact fB)
     · try simp only [ez16,dF] at c
       refine Ok.bv fun z20 ez20=>Ok.it (fun c=>?_) (fun c=>?_)
       · try simp only [ez20,dT] at c
         refine Ok.bv fun z22 ez22=>Ok.bv fun z23 ez23=>?_
         have tq:=tmod_bd x1 (c:=1000000) (by decide)
         rw [←ez22] at tq
         have rz23:=(wI64 ez23).1
         try replace ez23:=(wI64 ez23).2 oM
         refine Ok.ob (value_Num_tot oM) fun y24 ey24 hy24=>?_
         exact Ok.sm (by first|exact hy24|exact hy24.1|exact fB)
       · try simp only [ez20,dF] at c
         refine Ok.bv fun J26 eJ26=>?_
         have hJ26:∀ s26:Bool,(True)→Ok (J26 s26) (fun r=>Rt r∧(r.k=4∨r.k=1)):=by
          intro s26 hs26
          rw [eJ26]
          refine Ok.it (fun c=>?_) (fun c=>?_)
          · refine Ok.bv fun z28 ez28=>Ok.ob (maths_away_tot) fun y29 ey29 hy29=>?_
            exact Ok.sm (by first|exact hy29|exact hy29.1|exact fB)
          · refine Ok.bv fun z30 ez30=>Ok.it (fun c=>?_) (fun c=>?_)
            · try simp only [ez30,dT] at c
              refine Ok.ob (maths_whole_tot fA) fun y33 ey33 hy33=>?_
              have hw1:y33.length=1:=hy33.1
              refine Ok.ckf fC fun k1=>Ok.bv fun z36 ez36=>Ok.bv fun z38 ez38=>Ok.bv fun z39 ez39=>Ok.bv fun z40 ez40=>Ok.it (fun c=>?_) (fun c=>?_)
              · try simp only [ez40,ez39,ez38,BL] at c
                refine Ok.ob (value_Fail_tot fA) fun y42 ey42 hy42=>?_
                exact Ok.sm (by first|exact hy42|exact hy42.1|exact fB)
              · try simp only [ez40,ez39,ez38,BL] at c
                refine Ok.bv fun J44 eJ44=>?_
                have hJ44:∀ s44:Int,(True)→Ok (J44 s44) (fun r=>Rt r∧(r.k=4∨r.k=1)):=by
                 intro s44 hs44
                 rw [eJ44]
                 refine Ok.ob (maths_back_tot) fun y45 ey45 hy45=>?_
                 exact Ok.sm (by first|exact hy45|exact hy45.1|exact fB)
                clear eJ44
                refine Ok.bv fun B47 eB47=>?_
                subst eB47
                refine Ok.lp (fun s47:Int × Int=>2≤s47.2∧s47.2≤21) (fun s47=>(21-s47.2).toNat) fE fD fun s47 hs47 nextn47 ihn47=>?_
                refine Ok.bv fun z50 ez50=>Ok.it (fun c=>?_) (fun c=>?_)
                · try simp only [ez50,dT] at c
                  refine Ok.bv fun z53 ez53=>?_
                  have rz53:=(wI64 ez53).1
                  try replace ez53:=(wI64 ez53).2 oM
                  refine Ok.bv fun z54 ez54=>?_
                  have rz54:=(wI64 ez54).1
                  try replace ez54:=(wI64 ez54).2 oM
                  exact ihn47 _ fE fD
                · try simp only [ez50,dF] at c
                  exact hJ44 _ fA
            · try simp only [ez30,dF] at c
              exact hJ3 _ fA
         clear eJ26
         refine Ok.bv fun z55 ez55=>Ok.it (fun c=>?_) (fun c=>?_)
         · try simp only [ez55,dT] at c
           exact hJ26 _ fA
         · try simp only [ez55,dF] at c
           refine Ok.bv fun z57 ez57=>?_
           exact hJ26 _ fA
theorem maths_Two_tot {x0:List UInt8} {x1:Int} {x2:Int} (h1:-9223372036854775807≤x1∧x1≤9223372036854775807) (h2:-9223372036854775807≤x2∧x2≤9223372036854775807):Ok (maths_Two x0 x1 x2) (fun r=>Rt r∧(r.k=4∨r.k=1)):=by
 unfold maths_Two
 refine Ok.ob (maths_whole_tot fA) fun y3 ey3 hy3=>?_
 obtain ⟨hw1,hw2⟩:=hy3
 have hw1:y3.length=2:=hw1
 refine Ok.bv fun z7 ez7=>Ok.it (fun c=>?_) (fun c=>?_)
 · try simp only [ez7,dT] at c
   refine Ok.ckf fC fun k1=>Ok.bv fun z11 ez11=>Ok.bv fun z12 ez12=>Ok.ckf (by first|(simp only [ez12,BL];omega)|(simp [ez12];omega)|(simp [ez12];done)|exact fC) fun k2=>Ok.bv fun z14 ez14=>Ok.bv fun z15 ez15=>Ok.bv fun z16 ez16=>Ok.it (fun c=>?_) (fun c=>?_)
   · try simp only [ez16,ez15,ez12,BL] at c
     refine Ok.ob (value_Fail_tot fA) fun y18 ey18 hy18=>?_
     exact Ok.sm (by first|exact hy18|exact hy18.1|exact fB)
   · try simp only [ez16,ez15,ez12,BL] at c
     refine Ok.ckf fC fun k3=>Ok.bv fun z20 ez20=>?_
     have hz31:z20=z14:=by rw [ez20,ez14]
     have hz19:z14=z11:=by rw [ez14,ez11]
     refine Ok.ob (maths_round_tot h1 oM) fun y21 ey21 hy21=>?_
     exact Ok.sm (by first|exact hy21|exact hy21.1|exact fB)
 · try simp only [ez7,dF] at c
   refine Ok.bv fun z22 ez22=>Ok.it (fun c=>?_) (fun c=>?_)
   · try simp only [ez22,dT] at c
     refine Ok.bv fun z25 ez25=>Ok.it (fun c=>?_) (fun c=>?_)
     · try simp only [ez25,dT] at c
       refine Ok.ob (value_Fail_tot fA) fun y27 ey27 hy27=>?_
       exact Ok.sm (by first|exact hy27|exact hy27.1|exact fB)
     · try simp only [ez25,dF] at c
       refine Ok.ckf fC fun k4=>Ok.bv fun z29 ez29=>?_
       have tq:z29.natAbs<x2.natAbs∧(0≤x1→0≤z29):=by
        rw [ez29]
        exact ⟨tmod_nat x1 oM,fun h=>Int.tmod_nonneg x2 h⟩
       refine Ok.bv fun J31 eJ31=>?_
       have hJ31:∀ s31:Int,(-9223372036854775807≤s31∧s31≤9223372036854775807)→Ok (J31 s31) (fun r=>Rt r∧(r.k=4∨r.k=1)):=by
        intro s31 hs31
        rw [eJ31]
        refine Ok.ob (value_Num_tot hs31) fun y32 ey32 hy32=>?_
        exact Ok.sm (by first|exact hy32|exact hy32.1|exact fB)
       clear eJ31
       refine Ok.bv fun z33 ez33=>Ok.bv fun z34 ez34=>Ok.bv fun z35 ez35=>Ok.bv fun z36 ez36=>Ok.bv fun z37 ez37=>Ok.it (fun c=>?_) (fun c=>?_)
       · try simp only [ez37,ez36,ez35,ez34,ez33,BL] at c
         refine Ok.bv fun z39 ez39=>?_
         have hsg:(z29<0∧0<x2)∨(0<z29∧x2<0):=by by_cases q1:z29<0<;>by_cases q2:x2<0<;>simp [q1,q2] at c<;>omega
         have rz39:=(wI64 ez39).1
         try replace ez39:=(wI64 ez39).2 oM
         exact hJ31 _ fA
       · try simp only [ez37,ez36,ez35,ez34,ez33,BL] at c
         exact hJ31 _ fA
   · try simp only [ez22,dF] at c
     refine Ok.bv fun z40 ez40=>Ok.it (fun c=>?_) (fun c=>?_)
     · try simp only [ez40,dT] at c
       refine Ok.bv fun z43 ez43=>Ok.bv fun z44 ez44=>Ok.ckf (by first|(simp only [ez44,BL];omega)|(simp [ez44];omega)|(simp [ez44];done)|exact fC) fun k5=>Ok.bv fun z46 ez46=>Ok.bv fun z47 ez47=>Ok.bv fun z48 ez48=>Ok.ckf (by first|(simp only [ez48,ez47,ez44,BL];omega)|(simp [ez48,ez47,ez44];omega)|(simp [ez48,ez47,ez44];done)|exact fC) fun k6=>Ok.bv fun z50 ez50=>Ok.bv fun z51 ez51=>Ok.bv fun z52 ez52=>Ok.it (fun c=>?_) (fun c=>?_)
       · try simp only [ez52,ez51,ez48,ez47,ez44,BL] at c
         refine Ok.ob (value_Fail_tot fA) fun y54 ey54 hy54=>?_
         exact Ok.sm (by first|exact hy54|exact hy54.1|exact fB)
       · try simp only [ez52,ez51,ez48,ez47,ez44,BL] at c
         refine Ok.ckf fC fun k7=>Ok.bv fun z56 ez56=>?_
         have hz76:z56=z50:=by rw [ez56,ez50]
         refine Ok.ob (maths_power_tot oM oM) fun y57 ey57 hy57=>?_
         exact Ok.sm (by first|exact hy57|exact hy57.1|exact fB)
     · try simp only [ez40,dF] at c
       refine Ok.bv fun z58 ez58=>Ok.it (fun c=>?_) (fun c=>?_)
       · try simp only [ez58,dT] at c
         refine Ok.bv fun z61 ez61=>Ok.it (fun c=>?_) (fun c=>?_)
         · try simp only [ez61,dT] at c
           refine Ok.ob (value_Fail_tot fA) fun y63 ey63 hy63=>?_
           exact Ok.sm (by first|exact hy63|exact hy63.1|exact fB)
         · try simp only [ez61,dF] at c
           refine Ok.ckf fC fun k8=>Ok.bv fun z65 ez65=>?_
           try have qz65:=tdiv_nat x1 x2
           have rz65:=(wI64 ez65).1
           try replace ez65:=(wI64 ez65).2 oM
           refine Ok.ob (maths_back_tot) fun y66 ey66 hy66=>?_
           exact Ok.sm (by first|exact hy66|exact hy66.1|exact fB)
       · try simp only [ez58,dF] at c
         refine Ok.bv fun J68 eJ68=>?_
         have hJ68:∀ s68:Bool,(True)→Ok (J68 s68) (fun r=>Rt r∧(r.k=4∨r.k=1)):=by
          intro s68 hs68
          rw [eJ68]
          refine Ok.it (fun c=>?_) (fun c=>?_)
          · refine Ok.ckf fC fun k9=>Ok.bv fun z72 ez72=>Ok.bv fun z73 ez73=>Ok.ckf (by first|(simp only [ez73,BL];omega)|(simp [ez73];omega)|(simp [ez73];done)|exact fC) fun k10=>Ok.bv fun z75 ez75=>Ok.bv fun z76 ez76=>Ok.bv fun z77 ez77=>Ok.it (fun c=>?_) (fun c=>?_)
            · try simp only [ez77,ez76,ez73,BL] at c
              refine Ok.ob (value_Fail_tot fA) fun y79 ey79 hy79=>?_
              exact Ok.sm (by first|exact hy79|exact hy79.1|exact fB)
            · try simp only [ez77,ez76,ez73,BL] at c
              refine Ok.ckf fC fun k11=>Ok.bv fun z81 ez81=>?_
              have g1:=gelP hw2 ez81 oM
              refine Ok.ckf fC fun k12=>Ok.bv fun z83 ez83=>?_
              have g2:=gelP hw2 ez83 oM
              refine Ok.ob (maths_gcd_tot g2) fun y84 ey84 hy84=>Ok.bv fun z86 ez86=>Ok.bv fun z87 ez87=>Ok.bv fun z88 ez88=>Ok.it (fun c=>?_) (fun c=>?_)
              · try simp only [ez88,ez87,ez86,BL] at c
                refine Ok.ob (maths_back_tot) fun y90 ey90 hy90=>?_
                exact Ok.sm (by first|exact hy90|exact hy90.1|exact fB)
              · try simp only [ez88,ez87,ez86,BL] at c
                refine Ok.ckf fC fun k13=>Ok.bv fun z92 ez92=>Ok.ckf fC fun k14=>Ok.bv fun z94 ez94=>?_
                try have qz94:=tdiv_nat z92 y84
                have rz94:=(wI64 ez94).1
                try replace ez94:=(wI64 ez94).2 oM
                refine Ok.ckf fC fun k15=>Ok.bv fun z97 ez97=>Ok.bv fun z98 ez98=>Ok.ckf (by first|(simp only [ez98,BL];omega)|(simp [ez98];omega)|(simp [ez98];done)|exact fC) fun k16=>Ok.bv fun z100 ez100=>Ok.ckf (by first|(simp only [ez98,BL];omega)|(simp [ez98];omega)|(simp [ez98];done)|exact fC) fun k17=>Ok.bv fun z102 ez102=>?_
                try have qz102:=tdiv_nat 9223372036854 z100
                have rz102:=(wI64 ez102).1
                try replace ez102:=(wI64 ez102).2 oM
                refine Ok.bv fun z103 ez103=>Ok.bv fun z104 ez104=>Ok.it (fun c=>?_) (fun c=>?_)
                · try simp only [ez104,ez103,ez98,BL] at c
                  refine Ok.ob (value_Fail_tot fA) fun y106 ey106 hy106=>?_
                  exact Ok.sm (by first|exact hy106|exact hy106.1|exact fB)
                · try simp only [ez104,ez103,ez98,BL] at c
                  refine Ok.ckf fC fun k18=>Ok.bv fun z108 ez108=>Ok.bv fun z109 ez109=>?_
                  have rz109:=(wI64 ez109).1
                  try replace ez109:=(wI64 ez109).2 oM
                  refine Ok.ob (maths_back_tot) fun y110 ey110 hy110=>?_
                  exact Ok.sm (by first|exact hy110|exact hy110.1|exact fB)
          · refine Ok.ob (value_Fail_tot fA) fun y111 ey111 hy111=>?_
            exact Ok.sm (by first|exact hy111|exact hy111.1|exact fB)
         clear eJ68
         refine Ok.bv fun z112 ez112=>Ok.it (fun c=>?_) (fun c=>?_)
         · try simp only [ez112,dT] at c
           exact hJ68 _ fA
         · try simp only [ez112,dF] at c
           refine Ok.bv fun z114 ez114=>?_
           exact hJ68 _ fA
theorem lists_SumProduct_tot {x0:List (V)} {x1:List (V)} (hl:x0.length≤1000) (hx:∀ x∈x0,Rt x) (hl1:x1.length≤1000) (hx1:∀ x∈x1,Rt x):Ok (lists_SumProduct x0 x1) (Rt):=by
 unfold lists_SumProduct
 refine Ok.bv fun z3 ez3=>Ok.it (fun c=>?_) (fun c=>?_)
 · try simp only [ez3,BL] at c
   refine Ok.ob (value_Fail_tot fA) fun y5 ey5 hy5=>?_
   exact Ok.sm (by first|exact hy5|exact hy5.1|exact fB)
 · try simp only [ez3,BL] at c
   refine Ok.ob (value_Num_tot fA) fun y6 ey6 hy6=>Ok.bv fun J9 eJ9=>?_
   have hJ9:∀ s9:Int × Int × (List UInt8) × Int × Int × (List UInt8),(Rt ⟨s9.2.2.2.1,s9.2.2.2.2.1,s9.2.2.2.2.2⟩)→Ok (J9 s9) (Rt):=by
    intro s9 hs9
    rw [eJ9]
    exact Ok.sm fB
   clear eJ9
   refine Ok.bv fun B11 eB11=>?_
   subst eB11
   refine Ok.lp (fun s11:Int × Int × Int × (List UInt8) × Int × Int × (List UInt8)=>(0≤s11.1∧s11.1≤(x0.length:Int))∧Rt ⟨s11.2.2.2.2.1,s11.2.2.2.2.2.1,s11.2.2.2.2.2.2⟩) (fun s11=>((x0.length:Int)-s11.1).toNat) (by exact ⟨by simp only;omega,hy6.1⟩) fD fun s11 hs11 nextn11 ihn11=>Ok.bv fun z13 ez13=>Ok.it (fun c=>?_) (fun c=>?_)
   · try simp only [ez13,dT] at c
     refine Ok.ckf fC fun k1=>Ok.bv fun z19 ez19=>Ok.bv fun z20 ez20=>Ok.ckf (by first|(simp only [ez20,BL];omega)|(simp [ez20];omega)|(simp [ez20];done)|exact fC) fun k2=>Ok.bv fun z22 ez22=>Ok.bv fun z23 ez23=>Ok.bv fun z24 ez24=>Ok.it (fun c=>?_) (fun c=>?_)
     · try simp only [ez24,ez23,ez20,BL] at c
       refine Ok.bv fun z26 ez26=>?_
       have rz26:=(wI64 ez26).1
       try replace ez26:=(wI64 ez26).2 oM
       exact ihn11 _ (by exact ⟨by simp only;omega,hs11.2⟩) fD
     · try simp only [ez24,ez23,ez20,BL] at c
       refine Ok.ckf fC fun k3=>Ok.bv fun z28 ez28=>?_
       have g1:=gelP hx ez28 oM
       refine Ok.ckf fC fun k4=>Ok.bv fun z30 ez30=>?_
       have g2:=gelP hx1 ez30 oM
       refine Ok.ob (lists_Product_tot (by simp) (all2 g1 g2)) fun y31 ey31 hy31=>Ok.ob (lists_Sum_tot (by simp) (all2 hs11.2 hy31.1)) fun y32 ey32 hy32=>Ok.ckf fC fun k5=>Ok.bv fun z35 ez35=>?_
       have g3:=gelP hx ez35 oM
       refine Ok.ckf fC fun k6=>Ok.bv fun z37 ez37=>?_
       have g4:=gelP hx1 ez37 oM
       refine Ok.ob (lists_Product_tot (by simp) (all2 g3 g4)) fun y38 ey38 hy38=>Ok.bv fun z40 ez40=>Ok.it (fun c=>?_) (fun c=>?_)
       · try simp only [ez40,dT] at c
         exact Ok.sm (by first|exact hy38|exact hy38.1|exact fB)
       · try simp only [ez40,dF] at c
         refine Ok.bv fun z42 ez42=>Ok.it (fun c=>?_) (fun c=>?_)
         · try simp only [ez42,dT] at c
           exact Ok.sm (by first|exact hy32|exact hy32.1|exact fB)
         · try simp only [ez42,dF] at c
           refine Ok.bv fun z44 ez44=>?_
           have rz44:=(wI64 ez44).1
           try replace ez44:=(wI64 ez44).2 oM
           exact ihn11 _ (by exact ⟨by simp only;omega,hy32.1⟩) fD
   · try simp only [ez13,dF] at c
     exact hJ9 _ (by exact hs11.2)
end Go.Sp
end
section
set_option maxRecDepth 100000
namespace Go.Sp
open Go.Stp Go.ValP
def arT:List (List UInt8 × Nat × Nat):=[([73,70],2,3),
 ([73,70,69,82,82,79,82],2,2),
 ([65,78,68],1,9),
 ([79,82],1,9),
 ([67,72,79,79,83,69],2,9),
 ([65,66,83],1,1),
 ([83,73,71,78],1,1),
 ([73,78,84],1,1),
 ([82,79,85,78,68],2,2),
 ([77,79,68],2,2),
 ([80,79,87,69,82],2,2),
 ([81,85,79,84,73,69,78,84],2,2),
 ([71,67,68],2,2),
 ([76,67,77],2,2),
 ([70,65,67,84],1,1),
 ([69,86,69,78],1,1),
 ([79,68,68],1,1),
 ([84,82,85,78,67],1,1),
 ([77,73,78],1,9),
 ([77,65,88],1,9),
 ([83,85,77],1,9),
 ([80,82,79,68,85,67,84],1,9),
 ([67,79,85,78,84],1,9),
 ([67,79,85,78,84,65],1,9),
 ([67,79,85,78,84,66,76,65,78,75],1,1),
 ([65,86,69,82,65,71,69],1,9),
 ([83,85,77,73,70],2,2),
 ([67,79,85,78,84,73,70],2,2),
 ([83,85,77,80,82,79,68,85,67,84],2,2),
 ([76,69,78],1,1),
 ([76,69,70,84],2,2),
 ([82,73,71,72,84],2,2),
 ([77,73,68],3,3),
 ([85,80,80,69,82],1,1),
 ([76,79,87,69,82],1,1),
 ([84,82,73,77],1,1),
 ([67,79,78,67,65,84],1,9),
 ([82,69,80,84],2,2),
 ([70,73,78,68],2,2),
 ([83,85,66,83,84,73,84,85,84,69],3,3),
 ([69,88,65,67,84],2,2),
 ([86,65,76,85,69],1,1),
 ([78,79,84],1,1),
 ([73,83,78,85,77,66,69,82],1,1),
 ([73,83,84,69,88,84],1,1),
 ([73,83,66,76,65,78,75],1,1),
 ([73,83,69,82,82,79,82],1,1),
 ([73,83,76,79,71,73,67,65,76],1,1),
 ([78,65],0,0),
 ([73,78,68,69,88],3,3),
 ([77,65,84,67,72],2,2),
 ([86,76,79,79,75,85,80],3,3),
 ([82,79,87,83],1,1),
 ([67,79,76,85,77,78,83],1,1)]
def loN (nm:List UInt8):Nat:=((arT.find? fun x=>x.1 == nm).map fun x=>x.2.1).getD 0
def hiN (nm:List UInt8):Nat:=((arT.find? fun x=>x.1 == nm).map fun x=>x.2.2).getD 0
def treeOk (c n:Nat):Bool:=match tree_Name (c+6:Nat),tree_Fits (c+6:Nat) (n:Nat) with
 |some nm,some b=>!b||(decide (loN nm≤n)&&decide (n≤hiN nm)&&(decide (nm=[78,65])||decide (1≤n)))
 |_,_=>false
theorem treeOk_all:((List.range 49).all fun c=>(List.range 10).all fun n=>treeOk c n)=true:=by decide +kernel
theorem tree_tot {c:Int} {n:Nat} (h:6≤c∧c≤54) (hn:n≤9):∃ nm b,tree_Name c=some nm∧tree_Fits c (n:Int)=some b∧(b=true→loN nm≤n∧n≤hiN nm∧(nm=[78,65]∨1≤n)):=by
 have h1:=List.all_eq_true.1 (List.all_eq_true.1 treeOk_all (c-6).toNat (List.mem_range.2 oM)) n (List.mem_range.2 oM)
 unfold treeOk at h1
 rw [show (((c-6).toNat+6:Nat):Int)=c by omega] at h1
 split at h1
 · rename_i nm b e1 e2
   refine ⟨nm,b,e1,e2,fun hb=>?_⟩
   subst hb
   simp at h1
   exact ⟨h1.1.1,h1.1.2,h1.2⟩
 · cases h1
structure ArgOk (a:Arg):Prop where
 len:a.l.length≤100
 mem:∀ x∈a.l,Rt x
 cols:a.cols=1∨a.cols=2
theorem ArgOk.rt {a:Arg} (h:ArgOk a):∀ x∈a.l,Rt x:=h.mem
theorem ArgOk.len1 {a:Arg} (h:ArgOk a):a.l.length≤1000:=by have:=h.len;omega
theorem rt0:Rt ⟨0,0,[]⟩:=.inl ⟨rfl,rfl,rfl⟩
theorem funcs_single_tot {x0:Arg} (h:ArgOk x0):Ok (funcs_single x0) (Rt):=by
 unfold funcs_single
 refine Ok.bv fun z4 ez4=>Ok.it (fun c=>?_) (fun c=>?_)
 · try simp only [ez4,BL] at c
   refine Ok.ob (value_Fail_tot fA) fun y6 ey6 hy6=>?_
   exact Ok.sm (by first|exact hy6|exact hy6.1|exact fB)
 · try simp only [ez4,BL] at c
   refine Ok.ckf fC fun k1=>Ok.bv fun z8 ez8=>?_
   exact Ok.sm (by exact gelP h.rt ez8 oM)
theorem funcs_nums_tot {x0:List (Arg)} (hl:x0.length≤9) (hx:∀ a∈x0,ArgOk a):Ok (funcs_nums x0) (fun r=>Rt r.2∧(r.2.k≠4→r.1.length=x0.length∧∀ x∈r.1,-9223372036854775807≤x∧x≤9223372036854775807)):=by
 unfold funcs_nums
 refine Ok.bv fun J3 eJ3=>?_
 have hJ3:∀ s3:Int × Int × (List UInt8) × (List (Int)),(s3.2.2.2.length=x0.length∧∀ x∈s3.2.2.2,-9223372036854775807≤x∧x≤9223372036854775807)→Ok (J3 s3) (fun r=>Rt r.2∧(r.2.k≠4→r.1.length=x0.length∧∀ x∈r.1,-9223372036854775807≤x∧x≤9223372036854775807)):=by
  intro s3 hs3
  rw [eJ3]
  exact Ok.sm (by exact ⟨rt0,fun _=>hs3⟩)
 clear eJ3
 refine Ok.bv fun B6 eB6=>?_
 subst eB6
 refine Ok.lp (fun s6:Int × Int × Int × (List UInt8) × (List (Int))=>(0≤s6.1∧s6.1≤(x0.length:Int))∧(s6.2.2.2.2.length:Int)=s6.1∧∀ x∈s6.2.2.2.2,-9223372036854775807≤x∧x≤9223372036854775807) (fun s6=>((x0.length:Int)-s6.1).toNat) (by refine ⟨by simp only;omega,rfl,fun x hx=>?_⟩;cases hx) fD fun s6 hs6 nextn6 ihn6=>?_
 refine Ok.bv fun z9 ez9=>Ok.it (fun c=>?_) (fun c=>?_)
 · try simp only [ez9,dT] at c
   refine Ok.ckf fC fun k1=>Ok.bv fun z14 ez14=>?_
   have gz14:=gelP hx ez14 oM
   refine Ok.ob (funcs_single_tot gz14) fun y17 ey17 hy17=>Ok.ob (value_ToNum_rt hy17) fun y18 ey18 hy18=>?_
   have hn:=hy18.1.n
   refine Ok.bv fun z21 ez21=>Ok.it (fun c=>?_) (fun c=>?_)
   · try simp only [ez21,dT] at c
     exact Ok.sm (by exact ⟨hy18.1,fun g=>absurd c g⟩)
   · try simp only [ez21,dF] at c
     refine Ok.ckf fC fun k2=>Ok.bv fun z26 ez26=>Ok.bv fun z27 ez27=>?_
     have rz27:=(wI64 ez27).1
     try replace ez27:=(wI64 ez27).2 oM
     exact ihn6 _ (by refine ⟨by simp only;omega,by simp only [ez26,List.length_append,List.length_singleton];omega,?_⟩;simp only [ez26];exact all_snoc hs6.2.2 hn) fD
 · try simp only [ez9,dF] at c
   exact hJ3 _ (by exact ⟨by simp only;omega,hs6.2.2⟩)
theorem funcs_strs_tot {x0:List (Arg)} (hl:x0.length≤9) (hx:∀ a∈x0,ArgOk a):Ok (funcs_strs x0) (fun r=>Rt r.2∧(r.2.k≠4→r.1.length=x0.length∧∀ t∈r.1,t.length≤64)):=by
 unfold funcs_strs
 refine Ok.bv fun J3 eJ3=>?_
 have hJ3:∀ s3:Int × Int × (List UInt8) × (List (List UInt8)),(s3.2.2.2.length=x0.length∧∀ t∈s3.2.2.2,t.length≤64)→Ok (J3 s3) (fun r=>Rt r.2∧(r.2.k≠4→r.1.length=x0.length∧∀ t∈r.1,t.length≤64)):=by
  intro s3 hs3
  rw [eJ3]
  exact Ok.sm (by exact ⟨rt0,fun _=>hs3⟩)
 clear eJ3
 refine Ok.bv fun B6 eB6=>?_
 subst eB6
 refine Ok.lp (fun s6:Int × Int × Int × (List UInt8) × (List (List UInt8))=>(0≤s6.1∧s6.1≤(x0.length:Int))∧(s6.2.2.2.2.length:Int)=s6.1∧∀ t∈s6.2.2.2.2,t.length≤64) (fun s6=>((x0.length:Int)-s6.1).toNat) (by refine ⟨by simp only;omega,rfl,fun x hx=>?_⟩;cases hx) fD fun s6 hs6 nextn6 ihn6=>?_
 refine Ok.bv fun z9 ez9=>Ok.it (fun c=>?_) (fun c=>?_)
 · try simp only [ez9,dT] at c
   refine Ok.ckf fC fun k1=>Ok.bv fun z14 ez14=>?_
   have gz14:=gelP hx ez14 oM
   refine Ok.ob (funcs_single_tot gz14) fun y17 ey17 hy17=>Ok.ob (value_ToText_tot hy17) fun y18 ey18 hy18=>?_
   have hn:=hy18.len
   refine Ok.bv fun z21 ez21=>Ok.it (fun c=>?_) (fun c=>?_)
   · try simp only [ez21,dT] at c
     exact Ok.sm (by exact ⟨hy18,fun g=>absurd c g⟩)
   · try simp only [ez21,dF] at c
     refine Ok.ckf fC fun k2=>Ok.bv fun z26 ez26=>Ok.bv fun z27 ez27=>?_
     have rz27:=(wI64 ez27).1
     try replace ez27:=(wI64 ez27).2 oM
     exact ihn6 _ (by refine ⟨by simp only;omega,by simp only [ez26,List.length_append,List.length_singleton];omega,?_⟩;simp only [ez26];exact all_snoc hs6.2.2 hn) fD
 · try simp only [ez9,dF] at c
   exact hJ3 _ (by exact ⟨by simp only;omega,hs6.2.2⟩)
theorem funcs_all_tot {x0:List (Arg)} (hl:x0.length≤9) (hx:∀ a∈x0,ArgOk a):Ok (funcs_all x0) (fun r=>r.length≤1000∧∀ x∈r,Rt x):=by
 unfold funcs_all
 refine Ok.bv fun J2 eJ2=>?_
 have hJ2:∀ s2:(List (V)),(s2.length≤1000∧∀ x∈s2,Rt x)→Ok (J2 s2) (fun r=>r.length≤1000∧∀ x∈r,Rt x):=by
  intro s2 hs2
  rw [eJ2]
  exact Ok.sm fB
 clear eJ2
 refine Ok.bv fun B5 eB5=>?_
 subst eB5
 refine Ok.lp (fun s5:Int × (List (V))=>(0≤s5.1∧s5.1≤(x0.length:Int))∧(s5.2.length:Int)≤100*s5.1∧∀ x∈s5.2,Rt x) (fun s5=>((x0.length:Int)-s5.1).toNat) (by refine ⟨by simp only;omega,by simp,fun x hx=>?_⟩;cases hx) fD fun s5 hs5 nextn5 ihn5=>?_
 refine Ok.bv fun z8 ez8=>Ok.it (fun c=>?_) (fun c=>?_)
 · try simp only [ez8,dT] at c
   refine Ok.ckf fC fun k1=>Ok.bv fun z13 ez13=>?_
   have gz13:=gelP hx ez13 oM
   have hzl:=gz13.len
   refine Ok.ckf fC fun k2=>Ok.bv fun z18 ez18=>Ok.bv fun z19 ez19=>?_
   have rz19:=(wI64 ez19).1
   try replace ez19:=(wI64 ez19).2 oM
   exact ihn5 _ (by refine ⟨by simp only;omega,by simp only [ez18,List.length_append];omega,?_⟩;simp only [ez18];exact all_app hs5.2.2 gz13.rt) fD
 · try simp only [ez8,dF] at c
   exact hJ2 _ (by exact ⟨oM,hs5.2.2⟩)
theorem funcs_kind_tot {x0:List UInt8} {x1:V} (h:Rt x1):Ok (funcs_kind x0 x1) (Rt):=by
 unfold funcs_kind
 refine Ok.bv fun z5 ez5=>Ok.it (fun c=>?_) (fun c=>?_)
 · try simp only [ez5,dT] at c
   refine Ok.bv fun z7 ez7=>Ok.ob (value_Bool_tot) fun y8 ey8 hy8=>?_
   exact Ok.sm (by first|exact hy8|exact hy8.1|exact fB)
 · try simp only [ez5,dF] at c
   refine Ok.bv fun z9 ez9=>Ok.it (fun c=>?_) (fun c=>?_)
   · try simp only [ez9,dT] at c
     refine Ok.bv fun z11 ez11=>Ok.ob (value_Bool_tot) fun y12 ey12 hy12=>?_
     exact Ok.sm (by first|exact hy12|exact hy12.1|exact fB)
   · try simp only [ez9,dF] at c
     refine Ok.bv fun z13 ez13=>Ok.it (fun c=>?_) (fun c=>?_)
     · try simp only [ez13,dT] at c
       refine Ok.bv fun z15 ez15=>Ok.ob (value_Bool_tot) fun y16 ey16 hy16=>?_
       exact Ok.sm (by first|exact hy16|exact hy16.1|exact fB)
     · try simp only [ez13,dF] at c
       refine Ok.bv fun z17 ez17=>Ok.it (fun c=>?_) (fun c=>?_)
       · try simp only [ez17,dT] at c
         refine Ok.bv fun z19 ez19=>Ok.ob (value_Bool_tot) fun y20 ey20 hy20=>?_
         exact Ok.sm (by first|exact hy20|exact hy20.1|exact fB)
       · try simp only [ez17,dF] at c
         refine Ok.bv fun z21 ez21=>Ok.it (fun c=>?_) (fun c=>?_)
         · try simp only [ez21,dT] at c
           refine Ok.bv fun z23 ez23=>Ok.ob (value_Bool_tot) fun y24 ey24 hy24=>?_
           exact Ok.sm (by first|exact hy24|exact hy24.1|exact fB)
         · try simp only [ez21,dF] at c
           refine Ok.bv fun z25 ez25=>Ok.it (fun c=>?_) (fun c=>?_)
           · try simp only [ez25,dT] at c
             refine Ok.ob (value_ToBool_tot h) fun y27 ey27 hy27=>Ok.bv fun z30 ez30=>Ok.it (fun c=>?_) (fun c=>?_)
             · try simp only [ez30,dT] at c
               exact Ok.sm (by first|exact hy27|exact hy27.1|exact fB)
             · try simp only [ez30,dF] at c
               refine Ok.bv fun z32 ez32=>Ok.ob (value_Bool_tot) fun y33 ey33 hy33=>?_
               exact Ok.sm (by first|exact hy33|exact hy33.1|exact fB)
           · try simp only [ez25,dF] at c
             refine Ok.ob (value_Fail_tot fA) fun y34 ey34 hy34=>?_
             exact Ok.sm (by first|exact hy34|exact hy34.1|exact fB)
theorem funcs_list_tot {x0:List UInt8} {x1:List (Arg)} (hl:x1.length≤9) (hx:∀ a∈x1,ArgOk a) (hN:loN x0≤x1.length) (hK:x0=[78,65]∨1≤x1.length):Ok (funcs_list x0 x1) (Rt):=by
 unfold funcs_list
 refine Ok.bv fun J5 eJ5=>?_
 have hJ5:∀ s5:Bool,(True)→Ok (J5 s5) (Rt):=by
  intro s5 hs5
  rw [eJ5]
  refine Ok.it (fun c=>?_) (fun c=>?_)
  · refine Ok.bv fun z7 ez7=>Ok.ob (funcs_all_tot fA fA) fun y8 ey8 hy8=>Ok.ob (lists_Extreme_tot hy8.1 hy8.2) fun y10 ey10 hy10=>?_
    exact Ok.sm (by first|exact hy10|exact hy10.1|exact fB)
  · refine Ok.bv fun z11 ez11=>Ok.it (fun c=>?_) (fun c=>?_)
    · try simp only [ez11,dT] at c
      refine Ok.ob (funcs_all_tot fA fA) fun y13 ey13 hy13=>Ok.ob (lists_Sum_tot hy13.1 hy13.2) fun y15 ey15 hy15=>?_
      exact Ok.sm (by first|exact hy15|exact hy15.1|exact fB)
    · try simp only [ez11,dF] at c
      refine Ok.bv fun z16 ez16=>Ok.it (fun c=>?_) (fun c=>?_)
      · try simp only [ez16,dT] at c
        refine Ok.ob (funcs_all_tot fA fA) fun y18 ey18 hy18=>Ok.ob (lists_Product_tot hy18.1 hy18.2) fun y20 ey20 hy20=>?_
        exact Ok.sm (by first|exact hy20|exact hy20.1|exact fB)
      · try simp only [ez16,dF] at c
        refine Ok.bv fun z21 ez21=>Ok.it (fun c=>?_) (fun c=>?_)
        · try simp only [ez21,dT] at c
          refine Ok.ob (funcs_all_tot fA fA) fun y23 ey23 hy23=>Ok.ob (lists_Count_tot hy23.1) fun y25 ey25 hy25=>?_
          exact Ok.sm (by first|exact hy25|exact hy25.1|exact fB)
        · try simp only [ez21,dF] at c
          refine Ok.bv fun z26 ez26=>Ok.it (fun c=>?_) (fun c=>?_)
          · try simp only [ez26,dT] at c
            refine Ok.ob (funcs_all_tot fA fA) fun y28 ey28 hy28=>Ok.ob (lists_Count_tot hy28.1) fun y30 ey30 hy30=>?_
            exact Ok.sm (by first|exact hy30|exact hy30.1|exact fB)
          · try simp only [ez26,dF] at c
            refine Ok.bv fun z31 ez31=>Ok.it (fun c=>?_) (fun c=>?_)
            · try simp only [ez31,dT] at c
              refine Ok.ob (funcs_all_tot fA fA) fun y33 ey33 hy33=>Ok.ob (lists_Count_tot hy33.1) fun y35 ey35 hy35=>?_
              exact Ok.sm (by first|exact hy35|exact hy35.1|exact fB)
            · try simp only [ez31,dF] at c
              refine Ok.bv fun z36 ez36=>Ok.it (fun c=>?_) (fun c=>?_)
              · try simp only [ez36,dT] at c
                refine Ok.ob (funcs_all_tot fA fA) fun y38 ey38 hy38=>Ok.ob (lists_Average_tot hy38.1 hy38.2) fun y40 ey40 hy40=>?_
                exact Ok.sm (by first|exact hy40|exact hy40.1|exact fB)
              · try simp only [ez36,dF] at c
                refine Ok.bv fun z41 ez41=>Ok.it (fun c=>?_) (fun c=>?_)
                · try simp only [ez41,dT] at c
                  have h2:2≤x1.length:=by rw [c] at hN;exact Nat.le_trans (by decide) hN
                  refine Ok.ckf fC fun k1=>Ok.bv fun z44 ez44=>?_
                  have gz44:=gelP hx ez44 oM
                  refine Ok.ob (funcs_single_tot gz44) fun y46 ey46 hy46=>Ok.ckf fC fun k2=>Ok.bv fun z48 ez48=>?_
                  have gz48:=gelP hx ez48 oM
                  refine Ok.ob (lists_CountIf_tot gz48.len1) fun y50 ey50 hy50=>?_
                  exact Ok.sm (by first|exact hy50|exact hy50.1|exact fB)
                · try simp only [ez41,dF] at c
                  refine Ok.bv fun z51 ez51=>Ok.it (fun c=>?_) (fun c=>?_)
                  · try simp only [ez51,dT] at c
                    have h2:2≤x1.length:=by rw [c] at hN;exact Nat.le_trans (by decide) hN
                    refine Ok.ckf fC fun k3=>Ok.bv fun z54 ez54=>?_
                    have gz54:=gelP hx ez54 oM
                    refine Ok.ob (funcs_single_tot gz54) fun y56 ey56 hy56=>Ok.ckf fC fun k4=>Ok.bv fun z58 ez58=>?_
                    have gz58:=gelP hx ez58 oM
                    refine Ok.ob (lists_SumIf_tot gz58.len1 gz58.rt) fun y60 ey60 hy60=>?_
                    exact Ok.sm (by first|exact hy60|exact hy60.1|exact fB)
                  · try simp only [ez51,dF] at c
                    refine Ok.bv fun z61 ez61=>Ok.it (fun c=>?_) (fun c=>?_)
                    · try simp only [ez61,dT] at c
                      have h2:2≤x1.length:=by rw [c] at hN;exact Nat.le_trans (by decide) hN
                      refine Ok.ckf fC fun k5=>Ok.bv fun z64 ez64=>?_
                      have gz64:=gelP hx ez64 oM
                      refine Ok.ckf fC fun k6=>Ok.bv fun z67 ez67=>?_
                      have gz67:=gelP hx ez67 oM
                      refine Ok.ob (lists_SumProduct_tot gz64.len1 gz64.rt gz67.len1 gz67.rt) fun y69 ey69 hy69=>?_
                      exact Ok.sm (by first|exact hy69|exact hy69.1|exact fB)
                    · try simp only [ez61,dF] at c
                      refine Ok.bv fun z70 ez70=>Ok.it (fun c=>?_) (fun c=>?_)
                      · try simp only [ez70,dT] at c
                        have h2:2≤x1.length:=by rw [c] at hN;exact Nat.le_trans (by decide) hN
                        refine Ok.ckf fC fun k7=>Ok.bv fun z73 ez73=>?_
                        have gz73:=gelP hx ez73 oM
                        refine Ok.ob (funcs_single_tot gz73) fun y75 ey75 hy75=>Ok.ckf fC fun k8=>Ok.bv fun z77 ez77=>?_
                        have gz77:=gelP hx ez77 oM
                        refine Ok.ob (lists_Match_tot gz77.len1) fun y79 ey79 hy79=>?_
                        exact Ok.sm (by first|exact hy79|exact hy79.1|exact fB)
                      · try simp only [ez70,dF] at c
                        refine Ok.bv fun z80 ez80=>Ok.it (fun c=>?_) (fun c=>?_)
                        · try simp only [ez80,dT] at c
                          have h1:1≤x1.length:=by rw [c] at hN;exact Nat.le_trans (by decide) hN
                          refine Ok.ckf fC fun k9=>Ok.bv fun z83 ez83=>?_
                          have gz83:=gelP hx ez83 oM
                          refine Ok.ckf fC fun k10=>Ok.bv fun z86 ez86=>?_
                          have gz86:=gelP hx ez86 oM
                          refine Ok.bv fun z88 ez88=>?_
                          skip
                          refine Ok.ckf fC fun k11=>Ok.bv fun z90 ez90=>?_
                          try have qz90:=tdiv_nat (z83.l.length:Int) z88
                          have rz90:=(wI64 ez90).1
                          try replace ez90:=(wI64 ez90).2 oM
                          refine Ok.ob (num_Of_tot) fun y91 ey91 hy91=>Ok.ob (value_Made_tot (fun _=>hy91)) fun y92 ey92 hy92=>?_
                          exact Ok.sm (by first|exact hy92|exact hy92.1|exact fB)
                        · try simp only [ez80,dF] at c
                          refine Ok.bv fun z93 ez93=>Ok.it (fun c=>?_) (fun c=>?_)
                          · try simp only [ez93,dT] at c
                            have h1:1≤x1.length:=by rw [c] at hN;exact Nat.le_trans (by decide) hN
                            refine Ok.ckf fC fun k12=>Ok.bv fun z96 ez96=>?_
                            have gz96:=gelP hx ez96 oM
                            refine Ok.ob (num_Of_tot) fun y98 ey98 hy98=>Ok.ob (value_Made_tot (fun _=>hy98)) fun y99 ey99 hy99=>?_
                            exact Ok.sm (by first|exact hy99|exact hy99.1|exact fB)
                          · try simp only [ez93,dF] at c
                            refine Ok.bv fun z100 ez100=>Ok.it (fun c=>?_) (fun c=>?_)
                            · try simp only [ez100,dT] at c
                              refine Ok.ob (value_Fail_tot fA) fun y102 ey102 hy102=>?_
                              exact Ok.sm (by first|exact hy102|exact hy102.1|exact fB)
                            · try simp only [ez100,dF] at c
                              have h1:1≤x1.length:=hK.resolve_left c
                              refine Ok.bv fun z103 ez103=>Ok.it (fun c=>?_) (fun c=>?_)
                              · try simp only [ez103,dT] at c
                                have h3:3≤x1.length:=by rw [c] at hN;exact Nat.le_trans (by decide) hN
                                refine Ok.ckf fC fun k13=>Ok.bv fun z106 ez106=>?_
                                have lz106:=cutL_len x1 (1:Int) (x1.length:Int) oM
                                rw [←ez106] at lz106
                                have az106:=all_cut hx (1:Int) (x1.length:Int)
                                rw [←ez106] at az106
                                refine Ok.ob (funcs_nums_tot oM az106) fun y108 ey108 hy108=>Ok.bv fun z112 ez112=>Ok.it (fun c=>?_) (fun c=>?_)
                                · try simp only [ez112,dT] at c
                                  exact Ok.sm (by first|exact hy108.1|exact hy108.2|exact fB)
                                · try simp only [ez112,dF] at c
                                  have hq:=hy108.2 c
                                  refine Ok.ckf fC fun k14=>Ok.bv fun z115 ez115=>?_
                                  have gz115:=gelP hx ez115 oM
                                  refine Ok.ckf fC fun k15=>Ok.bv fun z118 ez118=>Ok.bv fun z119 ez119=>?_
                                  try have qz119:=tdiv_nat z118 1000000
                                  have rz119:=(wI64 ez119).1
                                  try replace ez119:=(wI64 ez119).2 oM
                                  refine Ok.ckf fC fun k16=>Ok.bv fun z121 ez121=>Ok.bv fun z122 ez122=>?_
                                  try have qz122:=tdiv_nat z121 1000000
                                  have rz122:=(wI64 ez122).1
                                  try replace ez122:=(wI64 ez122).2 oM
                                  refine Ok.ckf fC fun k17=>Ok.bv fun z124 ez124=>?_
                                  have gz124:=gelP hx ez124 oM
                                  refine Ok.ob (lists_Index_tot gz124.len1 gz124.rt gz115.cols oM oM) fun y126 ey126 hy126=>?_
                                  exact Ok.sm (by first|exact hy126|exact hy126.1|exact fB)
                              · try simp only [ez103,dF] at c
                                refine Ok.bv fun z127 ez127=>Ok.it (fun c=>?_) (fun c=>?_)
                                · try simp only [ez127,dT] at c
                                  have h3:3≤x1.length:=by rw [c] at hN;exact Nat.le_trans (by decide) hN
                                  refine Ok.ckf fC fun k18=>Ok.bv fun z130 ez130=>?_
                                  have lz130:=cutL_len x1 (2:Int) (x1.length:Int) oM
                                  rw [←ez130] at lz130
                                  have az130:=all_cut hx (2:Int) (x1.length:Int)
                                  rw [←ez130] at az130
                                  refine Ok.ob (funcs_nums_tot oM az130) fun y132 ey132 hy132=>Ok.bv fun z136 ez136=>Ok.it (fun c=>?_) (fun c=>?_)
                                  · try simp only [ez136,dT] at c
                                    exact Ok.sm (by first|exact hy132.1|exact hy132.2|exact fB)
                                  · try simp only [ez136,dF] at c
                                    have hq:=hy132.2 c
                                    refine Ok.ckf fC fun k19=>Ok.bv fun z139 ez139=>?_
                                    have gz139:=gelP hx ez139 oM
                                    refine Ok.ob (funcs_single_tot gz139) fun y141 ey141 hy141=>Ok.ckf fC fun k20=>Ok.bv fun z143 ez143=>?_
                                    have gz143:=gelP hx ez143 oM
                                    refine Ok.ckf fC fun k21=>Ok.bv fun z146 ez146=>Ok.bv fun z147 ez147=>?_
                                    try have qz147:=tdiv_nat z146 1000000
                                    have rz147:=(wI64 ez147).1
                                    try replace ez147:=(wI64 ez147).2 oM
                                    refine Ok.ckf fC fun k22=>Ok.bv fun z149 ez149=>?_
                                    have gz149:=gelP hx ez149 oM
                                    refine Ok.ob (lists_VLookup_tot gz149.len1 gz149.rt (by have:=gz143.cols;omega) oM) fun y151 ey151 hy151=>?_
                                    exact Ok.sm (by first|exact hy151|exact hy151.1|exact fB)
                                · try simp only [ez127,dF] at c
                                  refine Ok.ckf fC fun k23=>Ok.bv fun z153 ez153=>?_
                                  have gz153:=gelP hx ez153 oM
                                  refine Ok.ob (funcs_single_tot gz153) fun y155 ey155 hy155=>Ok.ob (funcs_kind_tot hy155) fun y156 ey156 hy156=>?_
                                  exact Ok.sm (by first|exact hy156|exact hy156.1|exact fB)
 clear eJ5
 refine Ok.bv fun z157 ez157=>Ok.it (fun c=>?_) (fun c=>?_)
 · try simp only [ez157,dT] at c
   exact hJ5 _ fA
 · try simp only [ez157,dF] at c
   refine Ok.bv fun z159 ez159=>?_
   exact hJ5 _ fA
theorem funcs_Apply_tot {x0:Int} {x1:List (Arg)} (h6:6≤x0∧x0≤54) (hl:x1.length≤9) (hx:∀ a∈x1,ArgOk a):Ok (funcs_Apply x0 x1) (Rt):=by
 obtain ⟨nm,b,hnm,hfit,hF⟩:=tree_tot h6 hl
 unfold funcs_Apply
 refine Ok.ob (Ok.of (P:=fun r=>r=nm) hnm rfl) fun y2 ey2 hy2=>Ok.ob (Ok.of (P:=fun r=>r=b) hfit rfl) fun y4 ey4 hy4=>Ok.bv fun z5 ez5=>Ok.it (fun c=>?_) (fun c=>?_)
 · try simp only [ez5,BL] at c
   refine Ok.ob (value_Fail_tot fA) fun y7 ey7 hy7=>?_
   exact Ok.sm (by first|exact hy7|exact hy7.1|exact fB)
 · try simp only [ez5,BL] at c
   have hF:=hF (by rw [←hy4];exact c)
   rw [←hy2] at hF
   refine Ok.bv fun J11 eJ11=>?_
   have hJ11:∀ s11:Bool,(s11=true→1≤x1.length∧x1.length≤2)→Ok (J11 s11) (Rt):=by
    intro s11 hs11
    rw [eJ11]
    refine Ok.it (fun c=>?_) (fun c=>?_)
    · have ha:=hs11 c
      refine Ok.ob (funcs_nums_tot hl hx) fun y13 ey13 hy13=>Ok.bv fun z17 ez17=>Ok.it (fun c=>?_) (fun c=>?_)
      · try simp only [ez17,dT] at c
        exact Ok.sm (by first|exact hy13.1|exact hy13.2|exact fB)
      · try simp only [ez17,dF] at c
        have hq:=hy13.2 c
        have hq2:=hq.2
        refine Ok.bv fun z20 ez20=>Ok.it (fun c=>?_) (fun c=>?_)
        · try simp only [ez20,dT] at c
          refine Ok.ckf fC fun k1=>Ok.bv fun z23 ez23=>?_
          have gz23:=gelP hq2 ez23 oM
          refine Ok.ob (maths_One_tot gz23) fun y24 ey24 hy24=>?_
          exact Ok.sm (by first|exact hy24|exact hy24.1|exact fB)
        · try simp only [ez20,dF] at c
          refine Ok.ckf fC fun k2=>Ok.bv fun z26 ez26=>?_
          have gz26:=gelP hq2 ez26 oM
          refine Ok.ckf fC fun k3=>Ok.bv fun z28 ez28=>?_
          have gz28:=gelP hq2 ez28 oM
          refine Ok.ob (maths_Two_tot gz26 gz28) fun y29 ey29 hy29=>?_
          exact Ok.sm (by first|exact hy29|exact hy29.1|exact fB)
    · refine Ok.bv fun J31 eJ31=>?_
      have hJ31:∀ s31:Bool,(s31=true→1≤x1.length)→Ok (J31 s31) (Rt):=by
       intro s31 hs31
       rw [eJ31]
       refine Ok.it (fun c=>?_) (fun c=>?_)
       · have ha:=hs31 c
         refine Ok.ob (funcs_strs_tot hl hx) fun y33 ey33 hy33=>Ok.bv fun z37 ez37=>Ok.it (fun c=>?_) (fun c=>?_)
         · try simp only [ez37,dT] at c
           exact Ok.sm (by first|exact hy33.1|exact hy33.2|exact fB)
         · try simp only [ez37,dF] at c
           have hq:=hy33.2 c
           have hq2:=hq.2
           refine Ok.bv fun z40 ez40=>Ok.bv fun z41 ez41=>Ok.bv fun z42 ez42=>Ok.it (fun c=>?_) (fun c=>?_)
           · try simp only [ez42,ez41,ez40,BL] at c
             refine Ok.ckf fC fun k4=>Ok.bv fun z45 ez45=>?_
             have gz45:=gelP hq2 ez45 oM
             refine Ok.ob (texts_One_tot gz45) fun y46 ey46 hy46=>?_
             exact Ok.sm (by first|exact hy46|exact hy46.1|exact fB)
           · try simp only [ez42,ez41,ez40,BL] at c
             refine Ok.ob (texts_More_tot oM hq.2) fun y47 ey47 hy47=>?_
             exact Ok.sm (by first|exact hy47|exact hy47.1|exact fB)
       · refine Ok.bv fun J49 eJ49=>?_
         have hJ49:∀ s49:Bool,(s49=true→2≤x1.length∧(y2=[82,69,80,84]→x1.length=2))→Ok (J49 s49) (Rt):=by
          intro s49 hs49
          rw [eJ49]
          refine Ok.it (fun c=>?_) (fun c=>?_)
          · have ha:=hs49 c
            refine Ok.ckf fC fun k5=>Ok.bv fun z52 ez52=>?_
            have lz52:=cutL_len x1 (0:Int) (1:Int) oM
            rw [←ez52] at lz52
            have az52:=all_cut hx (0:Int) (1:Int)
            rw [←ez52] at az52
            refine Ok.ob (funcs_strs_tot oM az52) fun y54 ey54 hy54=>Ok.bv fun z58 ez58=>Ok.it (fun c=>?_) (fun c=>?_)
            · try simp only [ez58,dT] at c
              exact Ok.sm (by first|exact hy54.1|exact hy54.2|exact fB)
            · try simp only [ez58,dF] at c
              have hq:=hy54.2 c
              have hq2:=hq.2
              refine Ok.ckf fC fun k6=>Ok.bv fun z61 ez61=>?_
              have lz61:=cutL_len x1 (1:Int) (x1.length:Int) oM
              rw [←ez61] at lz61
              have az61:=all_cut hx (1:Int) (x1.length:Int)
              rw [←ez61] at az61
              refine Ok.ob (funcs_nums_tot oM az61) fun y63 ey63 hy63=>Ok.bv fun z66 ez66=>Ok.it (fun c=>?_) (fun c=>?_)
              · try simp only [ez66,dT] at c
                exact Ok.sm (by first|exact hy63.1|exact hy63.2|exact fB)
              · try simp only [ez66,dF] at c
                have hp:=hy63.2 c
                refine Ok.ckf fC fun k7=>Ok.bv fun z69 ez69=>?_
                have gz69:=gelP hq2 ez69 oM
                refine Ok.ob (texts_Part_tot gz69 oM hp.2 (fun g=>by have:=ha.2 g;omega)) fun y70 ey70 hy70=>?_
                exact Ok.sm (by first|exact hy70|exact hy70.1|exact fB)
          · refine Ok.ob (funcs_list_tot hl hx hF.1 hF.2.2) fun y71 ey71 hy71=>?_
            exact Ok.sm (by first|exact hy71|exact hy71.1|exact fB)
         clear eJ49
         refine Ok.bv fun z72 ez72=>Ok.it (fun c=>?_) (fun c=>?_)
         · try simp only [ez72,dT] at c
           exact hJ49 _ (by intro _;have a:=hF.1;refine ⟨by rw [c] at a;exact Nat.le_trans (by decide) a,fun h=>?_⟩;have a:=hF.1;have b:=hF.2.1;rw [h] at a b;exact Nat.le_antisymm (Nat.le_trans b (by decide)) (Nat.le_trans (by decide) a))
         · try simp only [ez72,dF] at c
           refine Ok.bv fun z74 ez74=>Ok.it (fun c=>?_) (fun c=>?_)
           · try simp only [ez74,dT] at c
             exact hJ49 _ (by intro _;have a:=hF.1;refine ⟨by rw [c] at a;exact Nat.le_trans (by decide) a,fun h=>?_⟩;have a:=hF.1;have b:=hF.2.1;rw [h] at a b;exact Nat.le_antisymm (Nat.le_trans b (by decide)) (Nat.le_trans (by decide) a))
           · try simp only [ez74,dF] at c
             refine Ok.bv fun z76 ez76=>Ok.it (fun c=>?_) (fun c=>?_)
             · try simp only [ez76,dT] at c
               exact hJ49 _ (by intro _;have a:=hF.1;refine ⟨by rw [c] at a;exact Nat.le_trans (by decide) a,fun h=>?_⟩;have a:=hF.1;have b:=hF.2.1;rw [h] at a b;exact Nat.le_antisymm (Nat.le_trans b (by decide)) (Nat.le_trans (by decide) a))
             · try simp only [ez76,dF] at c
               refine Ok.bv fun z78 ez78=>?_
               exact hJ49 _ (by intro g;rw [ez78,dT] at g;have a:=hF.1;refine ⟨by rw [g] at a;exact Nat.le_trans (by decide) a,fun h=>?_⟩;have a:=hF.1;have b:=hF.2.1;rw [h] at a b;exact Nat.le_antisymm (Nat.le_trans b (by decide)) (Nat.le_trans (by decide) a))
      clear eJ31
      refine Ok.bv fun z79 ez79=>Ok.it (fun c=>?_) (fun c=>?_)
      · try simp only [ez79,dT] at c
        exact hJ31 _ (by intro _;have a:=hF.1;have b:=hF.2.1;rw [c] at a;exact Nat.le_trans (by decide) a)
      · try simp only [ez79,dF] at c
        refine Ok.bv fun z81 ez81=>Ok.it (fun c=>?_) (fun c=>?_)
        · try simp only [ez81,dT] at c
          exact hJ31 _ (by intro _;have a:=hF.1;have b:=hF.2.1;rw [c] at a;exact Nat.le_trans (by decide) a)
        · try simp only [ez81,dF] at c
          refine Ok.bv fun z83 ez83=>Ok.it (fun c=>?_) (fun c=>?_)
          · try simp only [ez83,dT] at c
            exact hJ31 _ (by intro _;have a:=hF.1;have b:=hF.2.1;rw [c] at a;exact Nat.le_trans (by decide) a)
          · try simp only [ez83,dF] at c
            refine Ok.bv fun z85 ez85=>Ok.it (fun c=>?_) (fun c=>?_)
            · try simp only [ez85,dT] at c
              exact hJ31 _ (by intro _;have a:=hF.1;have b:=hF.2.1;rw [c] at a;exact Nat.le_trans (by decide) a)
            · try simp only [ez85,dF] at c
              refine Ok.bv fun z87 ez87=>Ok.it (fun c=>?_) (fun c=>?_)
              · try simp only [ez87,dT] at c
                exact hJ31 _ (by intro _;have a:=hF.1;have b:=hF.2.1;rw [c] at a;exact Nat.le_trans (by decide) a)
              · try simp only [ez87,dF] at c
                refine Ok.bv fun z89 ez89=>Ok.it (fun c=>?_) (fun c=>?_)
                · try simp only [ez89,dT] at c
                  exact hJ31 _ (by intro _;have a:=hF.1;have b:=hF.2.1;rw [c] at a;exact Nat.le_trans (by decide) a)
                · try simp only [ez89,dF] at c
                  refine Ok.bv fun z91 ez91=>Ok.it (fun c=>?_) (fun c=>?_)
                  · try simp only [ez91,dT] at c
                    exact hJ31 _ (by intro _;have a:=hF.1;have b:=hF.2.1;rw [c] at a;exact Nat.le_trans (by decide) a)
                  · try simp only [ez91,dF] at c
                    refine Ok.bv fun z93 ez93=>Ok.it (fun c=>?_) (fun c=>?_)
                    · try simp only [ez93,dT] at c
                      exact hJ31 _ (by intro _;have a:=hF.1;have b:=hF.2.1;rw [c] at a;exact Nat.le_trans (by decide) a)
                    · try simp only [ez93,dF] at c
                      refine Ok.bv fun z95 ez95=>?_
                      exact hJ31 _ (by intro g;rw [ez95,dT] at g;have a:=hF.1;have b:=hF.2.1;rw [g] at a;exact Nat.le_trans (by decide) a)
   clear eJ11
   refine Ok.bv fun z96 ez96=>Ok.it (fun c=>?_) (fun c=>?_)
   · try simp only [ez96,dT] at c
     exact hJ11 _ (by intro _;have a:=hF.1;have b:=hF.2.1;rw [c] at a b;exact ⟨Nat.le_trans (by decide) a,Nat.le_trans b (by decide)⟩)
   · try simp only [ez96,dF] at c
     refine Ok.bv fun z98 ez98=>Ok.it (fun c=>?_) (fun c=>?_)
     · try simp only [ez98,dT] at c
       exact hJ11 _ (by intro _;have a:=hF.1;have b:=hF.2.1;rw [c] at a b;exact ⟨Nat.le_trans (by decide) a,Nat.le_trans b (by decide)⟩)
     · try simp only [ez98,dF] at c
       refine Ok.bv fun z100 ez100=>Ok.it (fun c=>?_) (fun c=>?_)
       · try simp only [ez100,dT] at c
         exact hJ11 _ (by intro _;have a:=hF.1;have b:=hF.2.1;rw [c] at a b;exact ⟨Nat.le_trans (by decide) a,Nat.le_trans b (by decide)⟩)
       · try simp only [ez100,dF] at c
         refine Ok.bv fun z102 ez102=>Ok.it (fun c=>?_) (fun c=>?_)
         · try simp only [ez102,dT] at c
           exact hJ11 _ (by intro _;have a:=hF.1;have b:=hF.2.1;rw [c] at a b;exact ⟨Nat.le_trans (by decide) a,Nat.le_trans b (by decide)⟩)
         · try simp only [ez102,dF] at c
           refine Ok.bv fun z104 ez104=>Ok.it (fun c=>?_) (fun c=>?_)
           · try simp only [ez104,dT] at c
             exact hJ11 _ (by intro _;have a:=hF.1;have b:=hF.2.1;rw [c] at a b;exact ⟨Nat.le_trans (by decide) a,Nat.le_trans b (by decide)⟩)
           · try simp only [ez104,dF] at c
             refine Ok.bv fun z106 ez106=>Ok.it (fun c=>?_) (fun c=>?_)
             · try simp only [ez106,dT] at c
               exact hJ11 _ (by intro _;have a:=hF.1;have b:=hF.2.1;rw [c] at a b;exact ⟨Nat.le_trans (by decide) a,Nat.le_trans b (by decide)⟩)
             · try simp only [ez106,dF] at c
               refine Ok.bv fun z108 ez108=>Ok.it (fun c=>?_) (fun c=>?_)
               · try simp only [ez108,dT] at c
                 exact hJ11 _ (by intro _;have a:=hF.1;have b:=hF.2.1;rw [c] at a b;exact ⟨Nat.le_trans (by decide) a,Nat.le_trans b (by decide)⟩)
               · try simp only [ez108,dF] at c
                 refine Ok.bv fun z110 ez110=>Ok.it (fun c=>?_) (fun c=>?_)
                 · try simp only [ez110,dT] at c
                   exact hJ11 _ (by intro _;have a:=hF.1;have b:=hF.2.1;rw [c] at a b;exact ⟨Nat.le_trans (by decide) a,Nat.le_trans b (by decide)⟩)
                 · try simp only [ez110,dF] at c
                   refine Ok.bv fun z112 ez112=>Ok.it (fun c=>?_) (fun c=>?_)
                   · try simp only [ez112,dT] at c
                     exact hJ11 _ (by intro _;have a:=hF.1;have b:=hF.2.1;rw [c] at a b;exact ⟨Nat.le_trans (by decide) a,Nat.le_trans b (by decide)⟩)
                   · try simp only [ez112,dF] at c
                     refine Ok.bv fun z114 ez114=>Ok.it (fun c=>?_) (fun c=>?_)
                     · try simp only [ez114,dT] at c
                       exact hJ11 _ (by intro _;have a:=hF.1;have b:=hF.2.1;rw [c] at a b;exact ⟨Nat.le_trans (by decide) a,Nat.le_trans b (by decide)⟩)
                     · try simp only [ez114,dF] at c
                       refine Ok.bv fun z116 ez116=>Ok.it (fun c=>?_) (fun c=>?_)
                       · try simp only [ez116,dT] at c
                         exact hJ11 _ (by intro _;have a:=hF.1;have b:=hF.2.1;rw [c] at a b;exact ⟨Nat.le_trans (by decide) a,Nat.le_trans b (by decide)⟩)
                       · try simp only [ez116,dF] at c
                         refine Ok.bv fun z118 ez118=>Ok.it (fun c=>?_) (fun c=>?_)
                         · try simp only [ez118,dT] at c
                           exact hJ11 _ (by intro _;have a:=hF.1;have b:=hF.2.1;rw [c] at a b;exact ⟨Nat.le_trans (by decide) a,Nat.le_trans b (by decide)⟩)
                         · try simp only [ez118,dF] at c
                           refine Ok.bv fun z120 ez120=>?_
                           exact hJ11 _ (by intro g;rw [ez120,dT] at g;have a:=hF.1;have b:=hF.2.1;rw [g] at a b;exact ⟨Nat.le_trans (by decide) a,Nat.le_trans b (by decide)⟩)
end Go.Sp
end
section
namespace Go.Sp
open Go.Stp Go.ValP
theorem funcs_Unary_tot {op:Int} {v:V} (h:Rt v):Ok (funcs_Unary op v) Rt:=by
 unfold funcs_Unary
 refine Ok.ob (value_ToNum_rt h) fun y _ hy=>Ok.bv fun z _=>Ok.it (fun _=>Ok.sm hy.1) fun _=>?_
 have hn:=hy.1.n
 refine Ok.bv fun z _=>Ok.it (fun _=>?_) fun _=>?_
 · refine Ok.bv fun z ez=>?_
   have:=(wI64 ez).2 oM
   exact Ok.ob (value_Num_tot oM) fun y _ hy=>Ok.sm hy.1
 · exact Ok.ob (num_Quo_tot oM oM) fun y _ hy=>Ok.ob (value_Made_tot fun _=>hy) fun y _ hy=>Ok.sm hy.1
theorem funcs_Binary_tot {op:Int} {x y:V} (ho:1≤op∧op≤11) (hx:Rt x) (hy:Rt y) (kx:x.k≠4) (ky:y.k≠4):Ok (funcs_Binary op x y) Rt:=by
 unfold funcs_Binary
 refine Ok.bv fun z0 e0=>Ok.it (fun c0=>?_) fun c0=>?_
 · rw [e0,dT] at c0
   refine Ok.ob (value_Compare_tot x y) fun y0 _ _=>Ok.bv fun _ _=>Ok.bv fun _ _=>Ok.bv fun _ _=>Ok.bv fun _ _=>Ok.bv fun _ _=>Ok.bv fun _ _=>Ok.bv fun z1 e1=>?_
   have:=(wI64 e1).2 oM
   exact Ok.ck oM (Ok.bv fun _ _=>Ok.ob value_Bool_tot fun y _ hy=>Ok.sm hy)
 refine Ok.bv fun z1 e1=>Ok.it (fun c1=>?_) fun c1=>?_
 · refine Ok.ob (value_Show_rt hx kx) fun a _ ha=>Ok.ob (value_Show_rt hy ky) fun b _ hb=>Ok.ck oM (Ok.bv fun _ _=>Ok.ob value_Text_tot fun y _ hy=>Ok.sm hy.1)
 refine Ok.ob (value_ToNum_rt hx) fun a _ ha=>Ok.ob (value_ToNum_rt hy) fun b _ hb=>Ok.bv fun _ _=>Ok.it (fun _=>Ok.sm ha.1) fun _=>Ok.bv fun _ _=>Ok.it (fun _=>Ok.sm hb.1) fun _=>?_
 have na:=ha.1.n
 have nb:=hb.1.n
 refine Ok.bv fun _ _=>Ok.it (fun _=>?_) fun _=>?_
 · exact Ok.ob (num_Add_tot _ _) fun y _ hy=>Ok.ob (value_Made_tot hy) fun y _ hy=>Ok.sm hy.1
 refine Ok.bv fun _ _=>Ok.it (fun _=>?_) fun _=>?_
 · exact Ok.ob (num_Sub_tot _ _) fun y _ hy=>Ok.ob (value_Made_tot hy) fun y _ hy=>Ok.sm hy.1
 refine Ok.bv fun _ _=>Ok.it (fun _=>?_) fun _=>?_
 · exact Ok.ob (num_Mul_tot oM oM) fun y _ hy=>Ok.ob (value_Made_tot fun _=>hy) fun y _ hy=>Ok.sm hy.1
 refine Ok.bv fun _ _=>Ok.it (fun _=>?_) fun _=>?_
 · exact Ok.ob (value_Fail_tot oM) fun y _ hy=>Ok.sm hy.1
 exact Ok.ob (num_Quo_tot oM oM) fun y _ hy=>Ok.ob (value_Made_tot fun _=>hy) fun y _ hy=>Ok.sm hy.1
theorem funcs_Bears_tot {op:Int} (ho:6≤op∧op≤54):Ok (funcs_Bears op) fun _=>True:=by
 obtain ⟨nm,b,h1,_⟩:=tree_tot (n:=0) ho oM
 unfold funcs_Bears
 rw [h1]
 refine Ok.os fun y _=>Ok.bv fun J eJ=>?_
 have hJ:∀ s,Ok (J s) fun _=>True:=fun s=>by rw [eJ];exact Ok.it (fun _=>Ok.sm trivial) fun _=>Ok.sm trivial
 clear eJ
 iterate 9 refine Ok.bv fun z _=>Ok.it (fun _=>hJ z) fun _=>?_
 exact Ok.bv fun z _=>hJ z
def okP (p:List V):Prop:=p.length=128∧∀ v∈p,Rt v
theorem at_rt {p:List V} (hp:okP p) (c:C):Ok (reckonerref13_Place_At p c) Rt:=by
 unfold reckonerref13_Place_At
 refine Ok.bv fun z1 e1=>Ok.bv fun z2 e2=>Ok.bv fun z3 e3=>Ok.bv fun z4 e4=>Ok.bv fun z5 e5=>Ok.bv fun z6 e6=>Ok.bv fun z7 e7=>Ok.bv fun z8 e8=>Ok.bv fun z9 e9=>Ok.bv fun z10 e10=>Ok.bv fun z11 e11=>Ok.it (fun _=>Ok.sm rt0) fun h=>?_
 rw [e11,e10,e9,e8,e7,e6,e5,e4,e3,e2,e1] at h
 simp at h
 refine Ok.bv fun z12 e12=>?_
 have:=(wI64 e12).2 oM
 refine Ok.bv fun z13 e13=>?_
 have:=(wI64 e13).2 oM
 refine Ok.ck oM (Ok.ck oM (Ok.bv fun z14 e14=>Ok.sm ?_))
 exact gelP hp.2 e14 (by rw [hp.1];omega)
abbrev ks (m:List (C × Bool)):List C:=m.map (·.1)
theorem mput_ks (m:List (C × Bool)) (k:C) (v:Bool):(ks (mput m k v)=ks m∧k∈ks m)∨ks (mput m k v)=ks m++[k]:=by
 unfold mput
 cases h:kAt k m 0 with
 |none=>right;simp
 |some q=>
  left
  obtain ⟨i,b⟩:=q
  have h1:=(kAt_some h).2
  simp only [Nat.sub_zero] at h1
  have hk:(ks m)[i]?=some k:=by rw [List.getElem?_map,h1];rfl
  refine ⟨?_,List.mem_of_getElem? hk⟩
  show ks (m.set i (k,v))=ks m
  rw [ks,List.map_set]
  apply List.ext_getElem?
  intro j
  rw [List.getElem?_set]
  by_cases e:i=j
  · subst e
    have hi:i<(m.map (·.1)).length:=by
     rw [List.getElem?_eq_some_iff] at hk
     exact hk.1
    rw [if_pos rfl,if_pos hi]
    exact hk.symm
  · rw [if_neg e]
theorem mput_in (m:List (C × Bool)) (k:C) (v:Bool):k∈ks (mput m k v):=by
 rcases mput_ks m k v with ⟨h,g⟩|h
 · rw [h];exact g
 · rw [h];simp
structure Gr (m:List (C × Bool)) (B:Nat) (m':List (C × Bool)):Prop where
 len:m'.length≤m.length+B
 sub:∀ c∈ks m,c∈ks m'
theorem Gr.refl (m:List (C × Bool)) (B:Nat):Gr m B m:=⟨oM,fun _ h=>h⟩
theorem Gr.trans {m m1 m2:List (C × Bool)} {B B' B2:Nat} (h:Gr m B m1) (k:Gr m1 B' m2) (e:B+B'≤B2):Gr m B2 m2:=⟨by have:=h.len;have:=k.len;omega,fun c hc=>k.sub c (h.sub c hc)⟩
theorem Gr.le {m m1:List (C × Bool)} {B B2:Nat} (h:Gr m B m1) (e:B≤B2):Gr m B2 m1:=⟨by have:=h.len;omega,h.sub⟩
theorem Gr.put (m:List (C × Bool)) (k:C) (v:Bool):Gr m 1 (mput m k v):=by
 refine ⟨?_,fun c hc=>?_⟩
 · rcases mput_ks m k v with ⟨h,_⟩|h<;>have:=congrArg List.length h<;>simp at this<;>omega
 · rcases mput_ks m k v with ⟨h,_⟩|h<;>rw [h]
   · exact hc
   · exact List.mem_append_left _ hc
def Org (R:Rn) (m:List (C × Bool)) (g:Gt):Prop:=g.v.k=4→g.c=R.c∨(g.c∈ks m∧reckonerref13_Place_At R.p g.c=some g.v)
theorem Org.mono {R:Rn} {m m':List (C × Bool)} {g:Gt} (h:Org R m g) (k:∀ c∈ks m,c∈ks m'):Org R m' g:=fun e=>(h e).imp id fun ⟨a,b⟩=>⟨k _ a,b⟩
structure EvP (R:Rn) (m:List (C × Bool)) (B:Nat) (r:Gt × List (C × Bool)):Prop where
 rt:Rt r.1.v
 gr:Gr m B r.2
 org:Org R r.2 r.1
theorem EvP.over {R:Rn} {m m1:List (C × Bool)} {B B' B2:Nat} {r:Gt × List (C × Bool)} (h:Gr m B m1) (k:EvP R m1 B' r) (e:B+B'≤B2):EvP R m B2 r:=⟨k.rt,h.trans k.gr e,k.org⟩
theorem EvP.le {R:Rn} {m:List (C × Bool)} {B B2:Nat} {r:Gt × List (C × Bool)} (k:EvP R m B r) (e:B≤B2):EvP R m B2 r:=⟨k.rt,k.gr.le e,k.org⟩
theorem made_ok {R:Rn} {v:V}:Ok (eval_run_made R v) fun g=>g=⟨v,R.c⟩:=Ok.sm rfl
theorem EvP.made {R:Rn} {m m':List (C × Bool)} {B:Nat} {v:V} {g:Gt} (hv:Rt v) (h:Gr m B m') (e:g=⟨v,R.c⟩):EvP R m B (g,m'):=by
 subst e
 exact ⟨hv,h,fun _=>.inl rfl⟩
theorem cell_ok {R:Rn} (hp:okP R.p) (c:C) (m:List (C × Bool)):Ok (eval_run_cell R c m) (EvP R m 1):=by
 unfold eval_run_cell
 refine Ok.bv fun m' em=>?_
 have hV:Ok (reckonerref13_Place_Value R.p c) fun r=>Rt r.1∧(r.1.k=4→r.2=c∧reckonerref13_Place_At R.p c=some r.1):=by
  unfold reckonerref13_Place_Value
  refine Ok.ob (at_rt hp c) fun y ey hy=>Ok.bv fun z ez=>Ok.it (fun _=>Ok.sm ⟨hy,fun _=>⟨rfl,ey⟩⟩) fun h=>Ok.sm ⟨hy,fun g=>?_⟩
  rw [ez] at h
  simp at h
  exact absurd g h
 refine Ok.ob hV fun y ey hy=>Ok.sm ⟨hy.1,by rw [em];exact Gr.put _ _ _,fun g=>.inr ?_⟩
 obtain ⟨h1,h2⟩:=hy.2 g
 dsimp only at g ⊢
 rw [h1,em]
 exact ⟨mput_in _ _ _,h2⟩
structure Box (a b:C):Prop where
 c0:0≤a.c
 c1:a.c≤b.c
 c2:b.c≤a.c+1
 c3:b.c≤100
 r0:0≤a.r
 r1:a.r≤b.r
 r2:b.r≤a.r+2
 r3:b.r≤100
structure NdB (n:Nd):Prop where
 one:n.k=2→Box n.a.c n.a.c
 two:n.k=3→Box n.a.c n.b.c
theorem order_ok {a b:C} (h:Box a b):Ok (addr_Order a b) fun r=>r.2.2=true→r.1=a∧r.2.1=⟨a.s,b.c,b.r⟩:=by
 have:=h.c1
 have:=h.r1
 unfold addr_Order
 refine Ok.bv fun z ez=>Ok.it (fun _=>Ok.sm fun g=>absurd g Bool.false_ne_true) fun _=>Ok.bv fun z1 e1=>Ok.bv fun z2 e2=>Ok.bv fun z3 e3=>Ok.bv fun z4 e4=>Ok.sm fun _=>?_
 rw [Int.min_eq_left oM] at e1 e2
 rw [Int.max_eq_right oM] at e3 e4
 rw [e1,e2,e3,e4]
 exact ⟨rfl,rfl⟩
theorem name_ok (p:List V) (nm:List UInt8):Ok (reckonerref13_Place_Name p nm) fun r=>NdB r.1:=by
 unfold reckonerref13_Place_Name
 refine Ok.bv fun _ _=>Ok.it (fun _=>Ok.sm ⟨fun _=>?_,fun h=>?_⟩) fun _=>Ok.bv fun _ _=>Ok.it (fun _=>Ok.sm ⟨fun h=>?_,fun _=>?_⟩) fun _=>Ok.sm ⟨fun h=>?_,fun h=>?_⟩
 · constructor<;>simp
 · simp at h
 · simp at h
 · constructor<;>simp
 · simp at h
 · simp at h
theorem area_ok {p:List V} {n:Nd} (h:NdB n):Ok (eval_Area p n) fun r=>r.2.2=true→Box r.1 r.2.1:=by
 unfold eval_Area
 refine Ok.bv fun J5 e5=>?_
 have hJ:∀ x:Nd,NdB x→Ok (J5 (x.k,x.op,x.v.k,x.v.n,x.v.s,x.a.c.s,x.a.c.c,x.a.c.r,x.a.ac,x.a.ar,x.b.c.s,x.b.c.c,x.b.c.r,x.b.ac,x.b.ar,x.nm,x.l)) fun r=>r.2.2=true→Box r.1 r.2.1:=by
  intro x hx
  rw [e5]
  refine Ok.bv fun z ez=>Ok.it (fun c=>?_) fun _=>?_
  · rw [ez,dT] at c
    have hb:=hx.two c
    refine Ok.ob (order_ok (a:=⟨x.a.c.s,x.a.c.c,x.a.c.r⟩) (b:=⟨x.b.c.s,x.b.c.c,x.b.c.r⟩) hb) fun y ey hy=>Ok.sm fun g=>?_
    obtain ⟨h1,h2⟩:=hy g
    dsimp only
    rw [h1,h2]
    exact ⟨hb.c0,hb.c1,hb.c2,hb.c3,hb.r0,hb.r1,hb.r2,hb.r3⟩
  · refine Ok.bv fun z ez=>Ok.it (fun c=>?_) fun _=>Ok.sm fun g=>absurd g Bool.false_ne_true
    rw [ez,dT] at c
    exact Ok.sm fun _=>hx.one c
 refine Ok.bv fun z ez=>Ok.it (fun c=>?_) fun _=>hJ n h
 refine Ok.ob (name_ok p n.nm) fun y ey hy=>Ok.it (fun _=>hJ y.1 hy) fun _=>hJ n h
theorem flat_len {f:Nat→List C} (h:∀ i,(f i).length≤2):∀ k:Nat,((List.range k).flatMap f).length≤2*k
 |0=>by simp
 |k+1=>by
  rw [List.range_succ,List.flatMap_append,List.length_append]
  have:=flat_len h k
  have:=h k
  simp only [List.flatMap_cons,List.flatMap_nil,List.append_nil]
  omega
theorem cells_ok {a b:C} (h:Box a b):Ok (addr_Cells a b) fun l=>l.length≤6:=by
 have:=h.c0;have:=h.c1;have:=h.c2;have:=h.c3;have:=h.r0;have:=h.r1;have:=h.r2;have:=h.r3
 unfold addr_Cells
 refine Ok.ob (order_ok h) fun o eo ho=>?_
 by_cases hb:o.2.2=true
 · rw [if_pos hb]
   obtain ⟨h1,h2⟩:=ho hb
   refine Ok.ck (by rw [h1,h2];dsimp only;omega) (Ok.sm ?_)
   rw [h1,h2]
   unfold cellsL
   have:=flat_len (f:=rowL a ⟨a.s,b.c,b.r⟩) (fun i=>by simp only [rowL,List.length_map,List.length_range];omega) (b.r-a.r+1).toNat
   dsimp only
   omega
 · rw [if_neg hb]
   exact Ok.sm (by simp)
variable {rec:Rn→Nd→(List (C × Bool))→Option ((Gt) × List (C × Bool))} {R:Rn} {n:Nd} {m:List (C × Bool)} {B:Nat}
theorem truth_ok {x:Nd} (h:Ok (rec R x m) (EvP R m B)):Ok (eval_run_truth rec R x m) (EvP R m B):=by
 unfold eval_run_truth
 refine Ok.ob h fun y ey hy=>Ok.bv fun z ez=>Ok.it (fun _=>Ok.sm hy) fun c=>?_
 exact Ok.ob (value_ToBool_tot hy.rt) fun b eb hb=>Ok.ob made_ok fun g eg hg=>Ok.sm (EvP.made hb hy.gr hg)
theorem lazy_ok (h:∀ m,∀ x∈n.l,Ok (rec R x m) (EvP R m B)) (hl:1≤n.l.length∧n.l.length≤9) (h2:n.op=1∨n.op=2→2≤n.l.length) (hop:1≤n.op∧n.op≤5):Ok (eval_run_lazy rec R n m) (EvP R m (9*B)):=by
 have gm:∀ {z:Nd} {i:Int},z=gel n.l i→0≤i∧i<(n.l.length:Int)→z∈n.l:=fun e hi=>by rw [e];exact gel_mem hi
 unfold eval_run_lazy
 refine Ok.bv fun J4 e4=>?_
 have hJ4:n.op=1→∀ s,s.1=m→Ok (J4 s) (EvP R m (9*B)):=by
  intro h1 s hs
  have hl2:=h2 (.inl h1)
  rw [e4]
  refine Ok.ck oM (Ok.bv fun x ex=>Ok.ob (truth_ok (h s.1 x (gm ex oM))) fun y ey hy=>?_)
  rw [hs] at hy
  refine Ok.bv fun z ez=>Ok.it (fun _=>Ok.sm (hy.le oM)) fun _=>Ok.bv fun z ez=>Ok.it (fun _=>?_) fun _=>?_
  · exact Ok.ck oM (Ok.bv fun x ex=>Ok.ob (h y.2 x (gm ex oM)) fun q eq hq=>Ok.sm (hq.over hy.gr oM))
  refine Ok.bv fun z ez=>Ok.it (fun c=>?_) fun _=>?_
  · rw [ez,dT] at c
    exact Ok.ck oM (Ok.bv fun x ex=>Ok.ob (h y.2 x (gm ex oM)) fun q eq hq=>Ok.sm (hq.over hy.gr oM))
  · exact Ok.ob value_Bool_tot fun b eb hb=>Ok.ob made_ok fun g eg hg=>Ok.sm (EvP.made hb (hy.gr.le oM) hg)
 clear e4
 refine Ok.bv fun z2 e2=>Ok.it (fun c=>?_) fun c2=>?_
 · rw [e2,dT] at c
   have hl2:=h2 (.inr c)
   refine Ok.ck oM (Ok.bv fun x ex=>Ok.ob (h m x (gm ex oM)) fun y ey hy=>Ok.bv fun z ez=>Ok.it (fun _=>Ok.sm (hy.le oM)) fun _=>?_)
   exact Ok.ck oM (Ok.bv fun x ex=>Ok.ob (h y.2 x (gm ex oM)) fun q eq hq=>Ok.sm (hq.over hy.gr oM))
 rw [e2,dF] at c2
 refine Ok.bv fun J48 e48=>?_
 have hJ48:∀ s:Bool,(s=false→n.op≠3∧n.op≠4)→Ok (J48 s) (EvP R m (9*B)):=by
  intro s hs
  rw [e48]
  refine Ok.it (fun _=>?_) fun c=>?_
  · refine Ok.bv fun J51 e51=>Ok.bv fun B56 e56=>Ok.lp (fun s=>∃ i:Nat,s.1=(i:Int)∧i≤n.l.length∧Gr m (i*B) s.2.1) (fun s=>n.l.length-s.1.toNat) ⟨0,rfl,Nat.zero_le _,Gr.refl _ _⟩ (by simp;omega) ?_
    rintro s ⟨i,h1,h3,h4⟩ next hn
    rw [e56]
    refine Ok.bv fun z ez=>Ok.it (fun c=>?_) fun c=>?_
    · rw [ez,h1,dT] at c
      have hi:i<n.l.length:=oM
      have hb:(i+1)*B≤9*B:=Nat.mul_le_mul_right B oM
      have hb2:(i+1)*B=i*B+B:=Nat.succ_mul i B
      refine Ok.ck oM (Ok.bv fun x ex=>Ok.ob (truth_ok (h s.2.1 x (gm ex oM))) fun y ey hy=>?_)
      have hy':=EvP.over h4 hy (B2:=(i+1)*B) oM
      refine Ok.bv fun _ _=>Ok.bv fun _ _=>Ok.bv fun _ _=>Ok.bv fun _ _=>Ok.bv fun _ _=>Ok.it (fun _=>Ok.sm (hy'.le hb)) fun _=>Ok.bv fun z9 e9=>?_
      have e:z9=((i+1:Nat):Int):=by
       rw [e9,h1]
       have:=(wI64 (z:=IntKind.wrap .i64 ((i:Int)+1)) rfl).2 oM
       rw [this]
       simp
      exact hn _ ⟨i+1,e,hi,hy'.gr⟩ (by simp only [e,h1];omega)
    · rw [e51]
      refine Ok.bv fun _ _=>Ok.ob value_Bool_tot fun b eb hb=>Ok.ob made_ok fun g eg hg=>Ok.sm (EvP.made hb (h4.le (Nat.mul_le_mul_right B oM)) hg)
  · obtain ⟨c3,c4⟩:=hs c
    refine Ok.bv fun z ez=>Ok.it (fun c=>?_) fun c=>?_
    · refine Ok.ck oM (Ok.bv fun x ex=>Ok.ob (h m x (gm ex oM)) fun y ey hy=>Ok.bv fun z ez=>Ok.it (fun _=>Ok.sm (hy.le oM)) fun _=>?_)
      refine Ok.ob (value_ToNum_rt hy.rt) fun v ev hv=>Ok.bv fun z ez=>Ok.it (fun _=>?_) fun _=>?_
      · exact Ok.ob made_ok fun g eg hg=>Ok.sm (EvP.made hv.1 (hy.gr.le oM) hg)
      refine Ok.bv fun z1 e1=>Ok.bv fun z2 e2=>Ok.bv fun z3 e3=>Ok.bv fun z4 e4=>Ok.it (fun c=>?_) fun _=>?_
      · rw [e4,e3,e2,bA,dT,dT] at c
        exact Ok.ck oM (Ok.bv fun x ex=>Ok.ob (h y.2 x (gm ex oM)) fun q eq hq=>Ok.sm (hq.over hy.gr oM))
      · exact Ok.ob (value_Fail_tot oM) fun b eb hb=>Ok.ob made_ok fun g eg hg=>Ok.sm (EvP.made hb.1 (hy.gr.le oM) hg)
    · rw [ez,dF] at c
      exact hJ4 oM _ rfl
 clear e48
 refine Ok.bv fun z ez=>Ok.it (fun c=>hJ48 _ (by rw [c];exact fun g=>by cases g)) fun c=>Ok.bv fun z' ez'=>hJ48 _ fun g=>?_
 rw [ez,dF] at c
 rw [ez',dF] at g
 exact ⟨c,g⟩
end Go.Sp
end
section
namespace Go.Sp
open Go.Stp Go.ValP
variable {rec:Rn→Nd→(List (C × Bool))→Option ((Gt) × List (C × Bool))} {R:Rn} {n:Nd} {m:List (C × Bool)} {B:Nat}
theorem succ64 {z:Int} {i:Nat} (e:z=IntKind.wrap .i64 ((i:Int)+1)) (hi:i<1000000):z=((i+1:Nat):Int):=by
 have:=(wI64 e).2 oM
 rw [this]
 simp
theorem foldO_ok2 {σ α:Type} {B:σ→α→Option σ} {N:Nat} (I:σ→Nat→Prop) (step:∀ s i x,i<N→I s i→Ok (B s x) fun s'=>I s' (i+1)):∀ (xs:List α) (s:σ) (i:Nat),i+xs.length≤N→I s i→Ok (foldO B s xs) fun s'=>I s' (i+xs.length)
 |[],s,i,_,h=>Ok.sm h
 |x::xs,s,i,hN,h=>Ok.ob (step s i x (by simp only [List.length_cons] at hN;omega) h) fun s' _ hs'=>(foldO_ok2 I step xs s' (i+1) (by simp only [List.length_cons] at hN;omega) hs').mono fun v hv=>by
  have e:i+1+xs.length=i+(x::xs).length:=by simp only [List.length_cons];omega
  rw [←e]
  exact hv
theorem strict_ok (hp:okP R.p) (hB:6≤B) (h:∀ m,∀ x∈n.l,NdB x∧Ok (rec R x m) (EvP R m B)) (hl:n.l.length≤9) (hop:6≤n.op∧n.op≤54):Ok (eval_run_strict rec R n m) (EvP R m (9*B)):=by
 have gm:∀ {z:Nd} {i:Int},z=gel n.l i→0≤i∧i<(n.l.length:Int)→z∈n.l:=fun e hi=>by rw [e];exact gel_mem hi
 unfold eval_run_strict
 refine Ok.bv fun J5 e5=>?_
 have hJ5:∀ s,Gr m (9*B) s.1→s.2.2.2.2.2.2.2.length≤9→(∀ a∈s.2.2.2.2.2.2.2,ArgOk a)→Ok (J5 s) (EvP R m (9*B)):=by
  intro s h1 h2 h3
  rw [e5]
  exact Ok.ob (funcs_Apply_tot hop h2 h3) fun v ev hv=>Ok.ob made_ok fun g eg hg=>Ok.sm (EvP.made hv h1 hg)
 clear e5
 refine Ok.bv fun B11 e11=>Ok.lp (fun s=>∃ i:Nat,s.1=(i:Int)∧i≤n.l.length∧Gr m (i*B) s.2.1∧s.2.2.2.2.2.2.2.2.length=i∧∀ a∈s.2.2.2.2.2.2.2.2,ArgOk a) (fun s=>n.l.length-s.1.toNat) ⟨0,rfl,Nat.zero_le _,Gr.refl _ _,rfl,fun a ha=>by cases ha⟩ (by simp;omega) ?_
 rintro s ⟨i,h1,h3,h4,h5,h6⟩ next hn
 rw [e11]
 refine Ok.bv fun z ez=>Ok.it (fun c=>?_) fun c=>hJ5 _ (h4.le (Nat.mul_le_mul_right B oM)) (by dsimp only;omega) h6
 rw [ez,h1,dT] at c
 have hi:i<n.l.length:=oM
 have hb:(i+1)*B≤9*B:=Nat.mul_le_mul_right B oM
 have hb2:(i+1)*B=i*B+B:=Nat.succ_mul i B
 refine Ok.ck oM (Ok.bv fun x ex=>?_)
 have hx:=h s.2.1 x (gm ex oM)
 refine Ok.ob (area_ok (p:=R.p) hx.1) fun y ey hy=>Ok.bv fun J29 e29=>?_
 have hJ29:∀ q,Gr m ((i+1)*B) q.1→(q.2.2.1=1∨q.2.2.1=2)→q.2.2.2.length≤6→(∀ g∈q.2.2.2,Rt g.v∧Org R q.1 g)→Ok (J29 q) (EvP R m (9*B)):=by
  intro q k1 k2 k3 k4
  rw [e29]
  refine Ok.bv fun J33 e33=>?_
  have hJ33:∀ u,u.2.2.2.2.2.2.length≤6→(∀ v∈u.2.2.2.2.2.2,Rt v)→Ok (J33 u) (EvP R m (9*B)):=by
   intro u u1 u2
   rw [e33]
   refine Ok.ck (by simp only [List.length_cons,List.length_nil];omega) (Ok.bv fun w ew=>Ok.bv fun z9 e9=>?_)
   rw [h1] at e9
   have e:=succ64 e9 oM
   refine hn _ ⟨i+1,e,hi,k1,by dsimp only;rw [ew];simp;omega,?_⟩ (by simp only [e,h1];omega)
   dsimp only
   rw [ew]
   exact all_snoc h6 ⟨by dsimp only;omega,u2,k2⟩
  clear e33
  refine Ok.bv fun B43 e43=>Ok.lp (fun u=>∃ j:Nat,u.1=(j:Int)∧j≤q.2.2.2.length∧u.2.2.2.2.2.2.2.length=j∧∀ v∈u.2.2.2.2.2.2.2,Rt v) (fun u=>q.2.2.2.length-u.1.toNat) ⟨0,rfl,Nat.zero_le _,rfl,fun a ha=>by cases ha⟩ (by simp;omega) ?_
  rintro u ⟨j,u1,u2,u3,u4⟩ next2 hn2
  rw [e43]
  refine Ok.bv fun z ez=>Ok.it (fun c=>?_) fun c=>hJ33 _ (by dsimp only;omega) u4
  rw [ez,u1,dT] at c
  refine Ok.ck oM (Ok.bv fun g eg=>?_)
  have hg:=k4 g (by rw [eg];exact gel_mem oM)
  refine Ok.bv fun z1 ez1=>?_
  have hbr:Ok (if z1=true then funcs_Bears n.op else some default) fun _=>True:=Ok.it (fun _=>funcs_Bears_tot hop) fun _=>Ok.sm trivial
  refine Ok.ob hbr fun b eb _=>Ok.bv fun z2 ez2=>Ok.bv fun z3 ez3=>Ok.it (fun _=>Ok.sm ⟨hg.1,k1.le hb,hg.2⟩) fun _=>Ok.ck (by simp only [List.length_cons,List.length_nil];omega) (Ok.bv fun w ew=>Ok.bv fun z9 e9=>?_)
  rw [u1] at e9
  have e:=succ64 e9 oM
  refine hn2 _ ⟨j+1,e,oM,by dsimp only;rw [ew];simp;omega,?_⟩ (by simp only [e,u1];omega)
  dsimp only
  rw [ew]
  exact all_snoc u4 hg.1
 clear e29
 refine Ok.it (fun c=>?_) fun _=>?_
 · have hbx:=hy c
   have:=hbx.c0;have:=hbx.c1;have:=hbx.c2;have:=hbx.c3
   refine Ok.bv fun z1 e1=>Ok.bv fun z2 e2=>?_
   have f1:=(wI64 e1).2 oM
   have f2:=(wI64 e2).2 oM
   refine Ok.ob (cells_ok hbx) fun l el hl6=>Ok.bv fun B70 e70=>?_
   have hf:Ok (foldO B70 (s.2.1,[]) l) fun s'=>Gr s.2.1 (0+l.length) s'.1∧s'.2.length=0+l.length∧∀ g∈s'.2,Rt g.v∧Org R s'.1 g:=by
    refine foldO_ok2 (N:=6) (fun s' k=>Gr s.2.1 k s'.1∧s'.2.length=k∧∀ g∈s'.2,Rt g.v∧Org R s'.1 g) ?_ l (s.2.1,[]) 0 oM ⟨Gr.refl _ _,rfl,fun a ha=>by cases ha⟩
    rintro s' k x hk ⟨g1,g2,g3⟩
    rw [e70]
    refine Ok.ob (cell_ok hp x s'.1) fun y2 ey2 hy2=>Ok.ck (by simp only [List.length_cons,List.length_nil];omega) (Ok.bv fun w ew=>Ok.sm ⟨g1.trans hy2.gr oM,?_,?_⟩)
    · dsimp only
      rw [ew]
      simp
      omega
    · dsimp only
      rw [ew]
      exact all_snoc (fun g hg=>⟨(g3 g hg).1,(g3 g hg).2.mono hy2.gr.sub⟩) ⟨hy2.rt,hy2.org⟩
   refine Ok.ob hf fun f ef hf=>hJ29 _ (h4.trans hf.1 oM) (by dsimp only;omega) (by dsimp only;omega) hf.2.2
 · refine Ok.ob hx.2 fun y2 ey2 hy2=>Ok.ck (by simp) (Ok.bv fun w ew=>?_)
   have hg:=h4.trans hy2.gr (B2:=(i+1)*B) oM
   refine hJ29 _ hg (.inl rfl) (by dsimp only;rw [ew];simp) ?_
   dsimp only
   rw [ew]
   intro g hg
   simp at hg
   subst hg
   exact ⟨hy2.rt,hy2.org⟩
def okN:Nat→Nd→Prop
 |0,_=>False
 |d+1,n=>NdB n∧(n.k=1∧Rt n.v∨n.k=2∨n.k=3∨n.k=4∨(n.k=5∨n.k=6)∧n.l.length=1∧(∀ x∈n.l,okN d x)∨n.k=7∧n.l.length=2∧(1≤n.op∧n.op≤11)∧(∀ x∈n.l,okN d x)∨
  n.k=8∧(1≤n.op∧n.op≤54)∧n.l.length≤9∧(n.op≤5→1≤n.l.length)∧(n.op=1∨n.op=2→2≤n.l.length)∧∀ x∈n.l,okN d x)
theorem okN.ndB {d:Nat} {n:Nd} (h:okN d n):NdB n:=by
 cases d with
 |zero=>exact h.elim
 |succ d=>exact h.1
theorem eval_okB (hp:okP R.p) (hB:6≤B) {d:Nat} (hn:okN (d+1) n) (h:∀ m,∀ x,okN d x→Ok (rec R x m) (EvP R m B)):Ok (eval_run_eval_B rec R n m) (EvP R m (9*B)):=by
 have gm:∀ {z:Nd} {i:Int},z=gel n.l i→0≤i∧i<(n.l.length:Int)→z∈n.l:=fun e hi=>by rw [e];exact gel_mem hi
 obtain ⟨hnb,hn⟩:=hn
 unfold eval_run_eval_B
 refine Ok.bv fun z1 e1=>Ok.it (fun c=>?_) fun c1=>?_
 · rw [e1,dT] at c
   have hv:Rt n.v:=by
    rcases hn with h|h|h|h|h|h|h
    · exact h.2
    all_goals omega
   exact Ok.ob made_ok fun g eg hg=>Ok.sm (EvP.made hv (Gr.refl _ _) hg)
 rw [e1,dF] at c1
 refine Ok.bv fun J9 e9=>?_
 have hJ9:∀ s:Bool,(s=false→n.k≠2∧n.k≠3∧n.k≠4)→Ok (J9 s) (EvP R m (9*B)):=by
  intro s hs
  rw [e9]
  refine Ok.it (fun _=>?_) fun c=>?_
  · refine Ok.ob (area_ok (p:=R.p) hnb) fun y ey hy=>Ok.bv fun z2 e2=>Ok.it (fun _=>?_) fun _=>?_
    · exact Ok.ob (value_Fail_tot oM) fun b eb hb=>Ok.ob made_ok fun g eg hg=>Ok.sm (EvP.made hb.1 (Gr.refl _ _) hg)
    refine Ok.bv fun z3 e3=>Ok.it (fun _=>?_) fun _=>?_
    · exact Ok.ob (value_Fail_tot oM) fun b eb hb=>Ok.ob made_ok fun g eg hg=>Ok.sm (EvP.made hb.1 (Gr.refl _ _) hg)
    exact Ok.ob (cell_ok hp _ m) fun y ey hy=>Ok.sm (hy.le oM)
  · have hk:=hs c
    refine Ok.bv fun J27 e27=>?_
    have hJ27:∀ s:Bool,(s=true→n.k=5∨n.k=6)→(s=false→n.k≠5∧n.k≠6)→Ok (J27 s) (EvP R m (9*B)):=by
     intro s hs1 hs2
     rw [e27]
     refine Ok.it (fun c=>?_) fun c=>?_
     · have hk5:=hs1 c
       have hq:n.l.length=1∧∀ x∈n.l,okN d x:=by
        rcases hn with h|h|h|h|h|h|h
        · omega
        · omega
        · omega
        · omega
        · exact h.2
        · omega
        · omega
       refine Ok.ck oM (Ok.bv fun x ex=>Ok.ob (h m x (hq.2 x (gm ex oM))) fun y ey hy=>Ok.bv fun z ez=>Ok.it (fun _=>Ok.sm (hy.le oM)) fun _=>?_)
       exact Ok.ob (funcs_Unary_tot hy.rt) fun v ev hv=>Ok.ob made_ok fun g eg hg=>Ok.sm (EvP.made hv (hy.gr.le oM) hg)
     · have hk5:=hs2 c
       refine Ok.bv fun z4 e4=>Ok.it (fun c=>?_) fun c=>?_
       · rw [e4,dT] at c
         have hq:n.l.length=2∧(1≤n.op∧n.op≤11)∧∀ x∈n.l,okN d x:=by
          rcases hn with h|h|h|h|h|h|h
          · omega
          · omega
          · omega
          · omega
          · omega
          · exact h.2
          · omega
         refine Ok.ck oM (Ok.bv fun x ex=>Ok.ob (h m x (hq.2.2 x (gm ex oM))) fun y ey hy=>Ok.bv fun z ez=>Ok.it (fun _=>Ok.sm (hy.le oM)) fun cx=>?_)
         refine Ok.ck oM (Ok.bv fun x2 ex2=>Ok.ob (h y.2 x2 (hq.2.2 x2 (gm ex2 oM))) fun y2 ey2 hy2=>Ok.bv fun z2 ez2=>Ok.it (fun _=>Ok.sm (hy2.over hy.gr oM)) fun cy=>?_)
         rw [ez,dF] at cx
         rw [ez2,dF] at cy
         exact Ok.ob (funcs_Binary_tot hq.2.1 hy.rt hy2.rt cx cy) fun v ev hv=>Ok.ob made_ok fun g eg hg=>Ok.sm (EvP.made hv (hy.gr.trans hy2.gr oM) hg)
       · rw [e4,dF] at c
         have hq:(1≤n.op∧n.op≤54)∧n.l.length≤9∧(n.op≤5→1≤n.l.length)∧(n.op=1∨n.op=2→2≤n.l.length)∧∀ x∈n.l,okN d x:=by
          rcases hn with h|h|h|h|h|h|h
          · omega
          · omega
          · omega
          · omega
          · omega
          · omega
          · exact h.2
         refine Ok.bv fun z5 e5=>Ok.it (fun c=>?_) fun c=>?_
         · rw [e5,dT] at c
           exact Ok.ob (lazy_ok (fun m x hx=>h m x (hq.2.2.2.2 x hx)) ⟨hq.2.2.1 c,hq.2.1⟩ hq.2.2.2.1 ⟨hq.1.1,c⟩) fun y ey hy=>Ok.sm hy
         · rw [e5,dF] at c
           exact Ok.ob (strict_ok hp hB (fun m x hx=>⟨(hq.2.2.2.2 x hx).ndB,h m x (hq.2.2.2.2 x hx)⟩) hq.2.1 ⟨oM,hq.1.2⟩) fun y ey hy=>Ok.sm hy
    clear e27
    refine Ok.bv fun z ez=>Ok.it (fun c=>hJ27 _ (fun _=>?_) fun g=>?_) fun c=>Ok.bv fun z' ez'=>hJ27 _ (fun g=>?_) fun g=>?_
    · rw [ez,dT] at c
      exact .inl c
    · rw [c] at g
      cases g
    · rw [ez',dT] at g
      exact .inr g
    · rw [ez',dF] at g
      rw [ez,dF] at c
      exact ⟨c,g⟩
 clear e9
 refine Ok.bv fun z ez=>Ok.it (fun c=>hJ9 _ fun g=>?_) fun c=>Ok.bv fun z2 ez2=>Ok.it (fun c2=>hJ9 _ fun g=>?_) fun c2=>Ok.bv fun z3 ez3=>hJ9 _ fun g=>?_
 · rw [c] at g
   cases g
 · rw [c2] at g
   cases g
 · rw [ez,dF] at c
   rw [ez2,dF] at c2
   rw [ez3,dF] at g
   exact ⟨c,c2,g⟩
theorem eval_okK (hp:okP R.p):∀ (d k:Nat) (n:Nd) (m:List (C × Bool)),d≤k→okN d n→Ok (eval_run_eval k R n m) (EvP R m (6*9 ^ d))
 |0,_,_,_,_,h=>h.elim
 |d+1,0,_,_,hk,_=>absurd hk oM
 |d+1,k+1,n,m,hk,h=>by
  rw [ev_step]
  have h6:1≤9 ^ d:=Nat.one_le_pow _ _ oM
  have e:6*9 ^ (d+1)=9*(6*9 ^ d):=by rw [Nat.pow_succ];omega
  rw [e]
  exact eval_okB hp oM h fun m x hx=>eval_okK hp d k x m oM hx
theorem Eval_tot {n:Nd} {self:C} {p:List V} (hp:okP p) {d:Nat} (hd:d≤7) (hn:okN d n):∃ r,EvP ⟨p,self⟩ [] (6*9 ^ d) r∧eval_run_eval KK ⟨p,self⟩ n []=some r∧eval_Eval n self p=some ⟨r.1.v,if r.1.v.k=4 then r.1.c else ⟨0,0,0⟩,srtK r.2⟩:=by
 obtain ⟨r,h,hr⟩:=eval_okK (R:=⟨p,self⟩) hp d KK n [] (by unfold KK;omega) hn
 refine ⟨r,hr,h,?_⟩
 have hl:=hr.gr.len
 have h7:9 ^ d≤9 ^ 7:=Nat.pow_le_pow_right oM hd
 have h7':(9:Nat) ^ 7=4782969:=by decide
 simp only [List.length_nil] at hl
 unfold eval_Eval
 rw [h]
 simp only [obind,bindv,chk]
 by_cases hk:r.1.v.k=4
 · rw [if_pos (show decide (r.1.v.k=4)=true by simpa using hk),if_pos oM,if_pos hk]
 · rw [if_neg (show ¬ decide (r.1.v.k=4)=true by simpa using hk),if_pos oM,if_neg hk]
end Go.Sp
end
section
namespace Go.Sp
open Go.Stp Go.ValP
def fitOk (c n:Nat):Bool:=match tree_Fits (c+1:Nat) (n:Nat) with
 |some b=>!b||decide (5≤c)||(decide (1≤n)&&(decide (2≤c)||decide (2≤n)))
 |none=>false
theorem fitOk_all:((List.range 54).all fun c=>(List.range 10).all fun n=>fitOk c n)=true:=by decide +kernel
theorem fits_tot {c:Int} {n:Nat} (h:1≤c∧c≤54) (hn:n≤9):∃ b,tree_Fits c (n:Int)=some b∧(b=true→(c≤5→1≤n)∧(c=1∨c=2→2≤n)):=by
 have h1:=List.all_eq_true.1 (List.all_eq_true.1 fitOk_all (c-1).toNat (List.mem_range.2 oM)) n (List.mem_range.2 oM)
 unfold fitOk at h1
 rw [show (((c-1).toNat+1:Nat):Int)=c by omega] at h1
 split at h1
 · rename_i b e1
   refine ⟨b,e1,fun hb=>?_⟩
   subst hb
   simp at h1
   omega
 · cases h1
theorem and3 (n:Int):0≤bits .and .i64 n 3∧bits .and .i64 n 3≤3:=by
 have h:(BitVec.ofInt 64 n &&& BitVec.ofInt 64 3).toNat≤3:=by
  rw [BitVec.toNat_and]
  exact Nat.and_le_right
 show 0≤IntKind.i64.wrap ((BitVec.ofInt 64 n &&& BitVec.ofInt 64 3).toNat:Int)∧IntKind.i64.wrap ((BitVec.ofInt 64 n &&& BitVec.ofInt 64 3).toNat:Int)≤3
 generalize (BitVec.ofInt 64 n &&& BitVec.ofInt 64 3).toNat=v at h
 have:=(wI64 (z:=IntKind.i64.wrap (v:Int)) rfl).2 oM
 omega
structure Fs (N:Nat) (l:List Int):Prop where
 len:l.length≤N
 by_:∀ b∈l,0≤b∧b≤255
theorem okLit {d:Nat} {v:V} (h:Rt v):okN (d+1) ⟨1,0,v,r0,r0,[],[]⟩:=⟨⟨fun h=>by simp at h,fun h=>by simp at h⟩,.inl ⟨rfl,h⟩⟩
theorem okCell {d:Nat} {r:Rf} (h:0≤r.c.c∧r.c.c≤3∧0≤r.c.r∧r.c.r≤3):okN (d+1) ⟨2,0,⟨0,0,[]⟩,r,r0,[],[]⟩:=⟨⟨fun _=>⟨h.1,by dsimp only;omega,by dsimp only;omega,by dsimp only;omega,h.2.2.1,by dsimp only;omega,by dsimp only;omega,by dsimp only;omega⟩,fun h=>by simp at h⟩,.inr (.inl rfl)⟩
theorem ndB_k {n:Nd} (h:5≤n.k):NdB n:=⟨fun _=>oM,fun _=>oM⟩
theorem okApply {d:Nat} {op:Int} {l:List Nd} (ho:1≤op∧op≤54) (hl:l.length≤9) (h1:op≤5→1≤l.length) (h2:op=1∨op=2→2≤l.length) (hx:∀ x∈l,okN d x):okN (d+1) ⟨8,op,⟨0,0,[]⟩,r0,r0,[],l⟩:=
 ⟨ndB_k (by simp),.inr (.inr (.inr (.inr (.inr (.inr ⟨rfl,ho,hl,h1,h2,hx⟩)))))⟩
theorem okUnary {d:Nat} {k:Int} {x:Nd} (hk:k=5∨k=6) (hx:okN d x):okN (d+1) ⟨k,0,⟨0,0,[]⟩,r0,r0,[],[x]⟩:=
 ⟨ndB_k (by dsimp only;omega),.inr (.inr (.inr (.inr (.inl ⟨hk,rfl,fun y hy=>by simp at hy;subst hy;exact hx⟩))))⟩
theorem okBinary {d:Nat} {op:Int} {x y:Nd} (ho:1≤op∧op≤11) (hx:okN d x) (hy:okN d y):okN (d+1) ⟨7,op,⟨0,0,[]⟩,r0,r0,[],[x,y]⟩:=
 ⟨ndB_k (by simp),.inr (.inr (.inr (.inr (.inr (.inl ⟨rfl,rfl,ho,all2 hx hy⟩)))))⟩
variable {rec:(List Int)→Int→Option ((Nd) × (List Int))}
end Go.Sp
end
section
namespace Go.Sp
open Go.Stp Go.ValP
theorem okP_zero:okP zeroPl:=⟨zeroPl_len,fun v hv=>by
 have:=List.eq_of_mem_replicate hv
 rw [this]
 exact rt0⟩
theorem okP_set {p:List V} (h:okP p) {i:Nat} {v:V} (hv:Rt v):okP (p.set i v):=⟨by rw [List.length_set];exact h.1,fun x hx=>by
 rcases List.mem_or_eq_of_mem_set hx with g|g
 · exact h.2 x g
 · rw [g];exact hv⟩
theorem place_ok {l:List V} (hl:l.length≤1000) (hn:∀ v∈l,-9223372036854775808≤v.n∧v.n≤9223372036854775807):Ok (reckonerlaw13_Place l) okP:=by
 unfold reckonerlaw13_Place
 refine Ok.bv fun J3 e3=>Ok.bv fun B5 e5=>Ok.lp (fun s=>∃ i:Nat,s.1=(i:Int)∧i≤l.length∧okP s.2) (fun s=>l.length-s.1.toNat) ⟨0,rfl,Nat.zero_le _,okP_zero⟩ (by simp;omega) ?_
 rintro s ⟨i,h1,h2,h3⟩ next hnx
 rw [e5]
 refine Ok.bv fun z ez=>Ok.it (fun c=>?_) fun c=>by rw [e3];exact Ok.sm h3
 rw [ez,h1,dT] at c
 refine Ok.ck oM (Ok.bv fun v ev=>Ok.bv fun z1 e1=>Ok.bv fun z2 e2=>Ok.bv fun z3 e3'=>?_)
 have hv:=gelP hn ev oM
 have hR:Ok (if z3=true then value_Right v else some default) fun b=>b=true→z3=true→Rt v:=Ok.it (fun _=>(value_Right_inv hv).mono fun _ h g _=>h g) fun hz=>Ok.sm fun _ h=>absurd h (by simp [hz])
 refine Ok.ob hR fun b eb hb=>Ok.bv fun z4 e4=>Ok.it (fun c4=>?_) fun c4=>?_
 · rw [e4,bA] at c4
   have hr:=hb c4.2 c4.1
   have c5:=c4.1
   rw [e3',bA,e1,h1,dT] at c5
   refine Ok.bv fun z5 e5'=>Ok.bv fun z6 e6=>?_
   have g5:=and1 s.1
   rw [←e5'] at g5
   rw [h1,Int.tdiv_eq_ediv_of_nonneg oM] at e6
   have g6:=(wI64 e6).2 oM
   refine Ok.ck oM (Ok.ck oM (Ok.bv fun p ep=>Ok.bv fun z7 e7=>?_))
   rw [h1] at e7
   have e:=succ64 e7 oM
   exact hnx _ ⟨i+1,e,oM,by dsimp only;rw [ep];exact okP_set h3 hr⟩ (by simp only [e,h1];omega)
 · refine Ok.bv fun z7 e7=>?_
   rw [h1] at e7
   have e:=succ64 e7 oM
   exact hnx _ ⟨i+1,e,oM,h3⟩ (by simp only [e,h1];omega)
end Go.Sp
end
section
namespace Go.Sp
open Go.Stp Go.ValP
section
variable {α β σ ρ:Type}
def Ok2 (x y:Option α) (P:α→α→Prop):Prop:=∃ a b,x=some a∧y=some b∧P a b
theorem Ok2.bv {x y:α} {f g:α→Option β} {P:β→β→Prop} (h:∀ z z',z=x→z'=y→Ok2 (f z) (g z') P):Ok2 (bindv x f) (bindv y g) P:=h x y rfl rfl
theorem Ok2.ck {p q:Prop} [Decidable p] [Decidable q] {A B:Option β} {P:β→β→Prop} (hp:p) (hq:q) (h:Ok2 A B P):Ok2 (chk p A) (chk q B) P:=by
 unfold chk
 rw [if_pos hp,if_pos hq]
 exact h
theorem Ok2.ob {x y:Option α} {f g:α→Option β} {P:β→β→Prop} {R:α→α→Prop} (h:Ok2 x y R) (k:∀ a b,x=some a→y=some b→R a b→Ok2 (f a) (g b) P):Ok2 (obind x f) (obind y g) P:=by
 obtain ⟨a,b,ha,hb,hr⟩:=h
 have:=k a b ha hb hr
 rw [ha,hb]
 exact this
theorem Ok2.it {b c:Bool} {A B A' B':Option β} {P:β→β→Prop} (e:b=c) (h1:b=true→Ok2 A A' P) (h2:b=false→Ok2 B B' P):Ok2 (if b=true then A else B) (if c=true then A' else B') P:=by
 subst e
 cases b with
 |true=>rw [if_pos rfl,if_pos rfl];exact h1 rfl
 |false=>rw [if_neg Bool.false_ne_true,if_neg Bool.false_ne_true];exact h2 rfl
theorem Ok2.sm {v w:β} {P:β→β→Prop} (h:P v w):Ok2 (some v) (some w) P:=⟨v,w,rfl,rfl,h⟩
theorem Ok2.mono {x y:Option α} {P R:α→α→Prop} (h:Ok2 x y P) (k:∀ v w,P v w→R v w):Ok2 x y R:=by
 obtain ⟨v,w,h1,h2,h3⟩:=h
 exact ⟨v,w,h1,h2,k v w h3⟩
theorem Ok2.same {x:Option α} {P:α→Prop} (h:Ok x P):Ok2 x x fun a b=>a=b∧P a:=by
 obtain ⟨v,h1,h2⟩:=h
 exact ⟨v,v,h1,h1,rfl,h2⟩
theorem Ok2.lpk {B B':(σ→Option ρ)→σ→Option ρ} {P:ρ→ρ→Prop} (I:σ→σ→Prop) (μ:σ→Nat) (step:∀ s t,I s t→∀ next next':σ→Option ρ,(∀ s' t',I s' t'→μ s'<μ s→Ok2 (next s') (next' t') P)→Ok2 (B next s) (B' next' t) P):∀ (K:Nat) (s t:σ),I s t→μ s<K→Ok2 (loopF B K s) (loopF B' K t) P
 |0,s,t,_,h=>oM
 |K+1,s,t,hI,h=>step s t hI (loopF B K) (loopF B' K) fun s' t' hI' hm=>Ok2.lpk I μ step K s' t' hI' oM
theorem Ok2.lp {B B':(σ→Option ρ)→σ→Option ρ} {P:ρ→ρ→Prop} (I:σ→σ→Prop) (μ:σ→Nat) {s t:σ} (h0:I s t) (hm:μ s<1208925819614629174706176) (step:∀ s t,I s t→∀ next next':σ→Option ρ,(∀ s' t',I s' t'→μ s'<μ s→Ok2 (next s') (next' t') P)→Ok2 (B next s) (B' next' t) P):Ok2 (loopF B KK s) (loopF B' KK t) P:=
 Ok2.lpk I μ step KK s t h0 (by unfold KK;omega)
end
def RelM (m1 m2 a b:List (C × Bool)):Prop:=∃ S:C→Prop,(∀ c,c∈ks a↔c∈ks m1∨S c)∧∀ c,c∈ks b↔c∈ks m2∨S c
theorem RelM.refl (m1 m2:List (C × Bool)):RelM m1 m2 m1 m2:=⟨fun _=>False,fun c=>by simp,fun c=>by simp⟩
theorem mput_mem {m:List (C × Bool)} {k c:C} {v:Bool}:c∈ks (mput m k v)↔c∈ks m∨c=k:=by
 rcases mput_ks m k v with ⟨h,g⟩|h
 · rw [h]
   exact ⟨.inl,fun e=>e.elim id fun e=>by rw [e];exact g⟩
 · rw [h]
   simp
theorem RelM.put (m1 m2:List (C × Bool)) (k:C) (v:Bool):RelM m1 m2 (mput m1 k v) (mput m2 k v):=⟨fun c=>c=k,fun _=>mput_mem,fun _=>mput_mem⟩
def Rel (m1 m2:List (C × Bool)) (r1 r2:Gt × List (C × Bool)):Prop:=r1.1=r2.1∧Rt r1.1.v∧RelM m1 m2 r1.2 r2.2
end Go.Sp
end
section
namespace Go.Sp
open Go.Stp Go.ValP
variable {rec rec':Rn→Nd→(List (C × Bool))→Option ((Gt) × List (C × Bool))} {R:Rn} {n:Nd} {m1 m2:List (C × Bool)}
theorem made_rel {v:V}:Ok2 (eval_run_made R v) (eval_run_made R v) fun g g'=>g=⟨v,R.c⟩∧g'=⟨v,R.c⟩:=Ok2.sm ⟨rfl,rfl⟩
theorem cell_rel (hp:okP R.p) (c:C):Ok2 (eval_run_cell R c m1) (eval_run_cell R c m2) (Rel m1 m2):=by
 obtain ⟨r,hr,hP⟩:=cell_ok hp c m1
 obtain ⟨r',hr',hP'⟩:=cell_ok hp c m2
 refine ⟨r,r',hr,hr',?_⟩
 unfold eval_run_cell at hr hr'
 simp only [bindv] at hr hr'
 cases e:reckonerref13_Place_Value R.p c with
 |none=>rw [e] at hr;cases hr
 |some q=>
  rw [e] at hr hr'
  cases hr
  cases hr'
  exact ⟨rfl,hP.rt,RelM.put _ _ _ _⟩
end Go.Sp
end
section
namespace Go.Sp
open Go.Stp Go.ValP
variable {rec rec':Rn→Nd→(List (C × Bool))→Option ((Gt) × List (C × Bool))} {R:Rn} {n:Nd} {m1 m2:List (C × Bool)}
theorem foldO_rel {σ α:Type} {B B':σ→α→Option σ} {N:Nat} (I:σ→σ→Nat→Prop) (step:∀ s t i x,i<N→I s t i→Ok2 (B s x) (B' t x) fun s' t'=>I s' t' (i+1)):∀ (xs:List α) (s t:σ) (i:Nat),i+xs.length≤N→I s t i→Ok2 (foldO B s xs) (foldO B' t xs) fun s' t'=>I s' t' (i+xs.length)
 |[],s,t,i,_,h=>Ok2.sm h
 |x::xs,s,t,i,hN,h=>Ok2.ob (step s t i x (by simp only [List.length_cons] at hN;omega) h) fun s' t' _ _ hs'=>(foldO_rel I step xs s' t' (i+1) (by simp only [List.length_cons] at hN;omega) hs').mono fun v w hv=>by
  have e:i+1+xs.length=i+(x::xs).length:=by simp only [List.length_cons];omega
  rw [←e]
  exact hv
end Go.Sp
end
section
namespace Go.Sp
open Go.Stp Go.ValP
variable {rec rec':Rn→Nd→(List (C × Bool))→Option ((Gt) × List (C × Bool))} {R:Rn} {n n':Nd} {m1 m2:List (C × Bool)}
def Vr (r1 r2:Gt × List (C × Bool)):Prop:=r1.1.v=r2.1.v∧Rt r1.1.v
theorem flV {v:V} {a b:List (C × Bool)} (hv:Rt v):Ok2 (obind (eval_run_made R v) fun y=>some (y,a)) (obind (eval_run_made R v) fun y=>some (y,b)) Vr:=Ok2.ob made_rel fun g g' _ _ hg=>Ok2.sm (by rw [hg.1,hg.2];exact ⟨rfl,hv⟩)
theorem truth_V {x x':Nd} (h:Ok2 (rec R x m1) (rec' R x' m2) Vr):Ok2 (eval_run_truth rec R x m1) (eval_run_truth rec' R x' m2) Vr:=by
 unfold eval_run_truth
 refine Ok2.ob h fun y y' ey ey' hy=>Ok2.bv fun z z' ez ez'=>Ok2.it (by rw [ez,ez',hy.1]) (fun _=>Ok2.sm hy) fun c=>?_
 rw [←hy.1]
 exact Ok2.ob (Ok2.same (value_ToBool_tot hy.2)) fun b b' _ _ hb=>by
  obtain ⟨rfl,hb⟩:=hb
  exact flV hb
structure Kin (rec rec':Rn→Nd→(List (C × Bool))→Option ((Gt) × List (C × Bool))) (R:Rn) (x x':Nd):Prop where
 ar:Ok2 (eval_Area R.p x) (eval_Area R.p x') fun y y'=>y.2.2=y'.2.2∧(y.2.2=true→y'=y∧Box y.1 y.2.1)
 ev:∀ a b,Ok2 (rec R x a) (rec' R x' b) Vr
theorem lazy_V (he:n'.op=n.op) (hle:n'.l.length=n.l.length) (h:∀ i:Int,0≤i∧i<(n.l.length:Int)→∀ a b,Ok2 (rec R (gel n.l i) a) (rec' R (gel n'.l i) b) Vr) (hl:1≤n.l.length∧n.l.length≤9) (h2:n.op=1∨n.op=2→2≤n.l.length) (hop:1≤n.op∧n.op≤5):Ok2 (eval_run_lazy rec R n m1) (eval_run_lazy rec' R n' m2) Vr:=by
 have go:∀ {a b:List (C × Bool)} {i:Int},0≤i∧i<(n.l.length:Int)→∀ z z',z=gel n.l i→z'=gel n'.l i→Ok2 (obind (rec R z a) fun y=>some (y.1,y.2)) (obind (rec' R z' b) fun y=>some (y.1,y.2)) Vr:=fun hi z z' e e'=>by
  subst e e'
  exact Ok2.ob (h _ hi _ _) fun y y' _ _ hy=>Ok2.sm hy
 unfold eval_run_lazy
 refine Ok2.bv fun J4 J4' e4 e4'=>?_
 have hJ4:n.op=1→∀ s t,s.1=m1→t.1=m2→Ok2 (J4 s) (J4' t) Vr:=by
  intro h1 s t hs ht
  have hl2:=h2 (.inl h1)
  rw [e4,e4']
  refine Ok2.ck oM oM (Ok2.bv fun x x' ex ex'=>?_)
  rw [hs,ht]
  subst ex ex'
  refine Ok2.ob (truth_V (h 0 oM m1 m2)) fun y y' ey ey' hy=>Ok2.bv fun z z' ez ez'=>Ok2.it (by rw [ez,ez',hy.1]) (fun _=>Ok2.sm hy) fun _=>Ok2.bv fun z z' ez ez'=>Ok2.it (by rw [ez,ez',hy.1]) (fun _=>?_) fun _=>?_
  · exact Ok2.ck oM oM (Ok2.bv fun x x' ex ex'=>go oM _ _ ex ex')
  refine Ok2.bv fun z z' ez ez'=>Ok2.it (by rw [ez,ez',hle]) (fun c=>?_) fun _=>?_
  · rw [ez,dT] at c
    exact Ok2.ck oM oM (Ok2.bv fun x x' ex ex'=>go oM _ _ ex ex')
  · exact Ok2.ob (Ok2.same value_Bool_tot) fun b b' _ _ hb=>by
     obtain ⟨rfl,hb⟩:=hb
     exact flV hb
 clear e4 e4'
 refine Ok2.bv fun z2 z2' e2 e2'=>Ok2.it (by rw [e2,e2',he]) (fun c=>?_) fun c2=>?_
 · rw [e2,dT] at c
   have hl2:=h2 (.inr c)
   refine Ok2.ck oM oM (Ok2.bv fun x x' ex ex'=>?_)
   subst ex ex'
   refine Ok2.ob (h 0 oM m1 m2) fun y y' ey ey' hy=>Ok2.bv fun z z' ez ez'=>Ok2.it (by rw [ez,ez',hy.1]) (fun _=>Ok2.sm hy) fun _=>?_
   exact Ok2.ck oM oM (Ok2.bv fun x x' ex ex'=>go oM _ _ ex ex')
 rw [e2,dF] at c2
 refine Ok2.bv fun J48 J48' e48 e48'=>?_
 have hJ48:∀ s:Bool,(s=false→n.op≠3∧n.op≠4)→Ok2 (J48 s) (J48' s) Vr:=by
  intro s hs
  rw [e48,e48']
  refine Ok2.it rfl (fun _=>?_) fun c=>?_
  · refine Ok2.bv fun J51 J51' e51 e51'=>Ok2.bv fun B56 B56' e56 e56'=>Ok2.lp (fun s t=>∃ i:Nat,s.1=(i:Int)∧t.1=(i:Int)∧i≤n.l.length) (fun s=>n.l.length-s.1.toNat) ⟨0,rfl,rfl,Nat.zero_le _⟩ (by simp;omega) ?_
    rintro s t ⟨i,h1,h1',h3⟩ next next' hn
    rw [e56,e56']
    refine Ok2.bv fun z z' ez ez'=>Ok2.it (by rw [ez,ez',h1,h1',hle]) (fun c=>?_) fun c=>?_
    · rw [ez,h1,dT] at c
      have hi:i<n.l.length:=oM
      refine Ok2.ck oM oM (Ok2.bv fun x x' ex ex'=>?_)
      rw [h1] at ex
      rw [h1'] at ex'
      subst ex ex'
      refine Ok2.ob (truth_V (h i oM s.2.1 t.2.1)) fun y y' ey ey' hy=>Ok2.bv fun z1 z1' f1 f1'=>Ok2.bv fun z2 z2' f2 f2'=>Ok2.bv fun z3 z3' f3 f3'=>Ok2.bv fun z4 z4' f4 f4'=>Ok2.bv fun z5 z5' f5 f5'=>Ok2.it (by rw [f5,f5',f4,f4',f3,f3',f2,f2',f1,f1',hy.1,he]) (fun _=>Ok2.sm hy) fun _=>Ok2.bv fun z9 z9' e9 e9'=>?_
      rw [h1] at e9
      rw [h1'] at e9'
      have e:=succ64 e9 oM
      have e':=succ64 e9' oM
      exact hn _ _ ⟨i+1,e,e',hi⟩ (by simp only [e,h1];omega)
    · rw [e51,e51']
      refine Ok2.bv fun z z' ez ez'=>?_
      rw [he] at ez'
      subst ez ez'
      exact Ok2.ob (Ok2.same value_Bool_tot) fun b b' _ _ hb=>by
       obtain ⟨rfl,hb⟩:=hb
       exact flV hb
  · obtain ⟨c3,c4⟩:=hs c
    refine Ok2.bv fun z z' ez ez'=>Ok2.it (by rw [ez,ez',he]) (fun c=>?_) fun c=>?_
    · refine Ok2.ck oM oM (Ok2.bv fun x x' ex ex'=>?_)
      subst ex ex'
      refine Ok2.ob (h 0 oM m1 m2) fun y y' ey ey' hy=>Ok2.bv fun z z' ez ez'=>Ok2.it (by rw [ez,ez',hy.1]) (fun _=>Ok2.sm hy) fun _=>?_
      rw [←hy.1]
      refine Ok2.ob (Ok2.same (value_ToNum_rt hy.2)) fun v v' _ _ hv=>?_
      obtain ⟨rfl,hv⟩:=hv
      refine Ok2.bv fun z z' ez ez'=>Ok2.it (by rw [ez,ez']) (fun _=>?_) fun _=>?_
      · exact flV hv.1
      refine Ok2.bv fun z1 z1' f1 f1'=>Ok2.bv fun z2 z2' f2 f2'=>Ok2.bv fun z3 z3' f3 f3'=>Ok2.bv fun z4 z4' f4 f4'=>Ok2.it (by rw [f4,f4',f3,f3',f2,f2',f1,f1',hle]) (fun c=>?_) fun _=>?_
      · have e1:z1'=z1:=by rw [f1,f1']
        rw [f4,f3,f2,bA,dT,dT] at c
        exact Ok2.ck oM oM (Ok2.bv fun x x' ex ex'=>go oM _ _ ex (by rw [ex',e1]))
      · exact Ok2.ob (Ok2.same (value_Fail_tot oM)) fun b b' _ _ hb=>by
         obtain ⟨rfl,hb⟩:=hb
         exact flV hb.1
    · rw [ez,dF] at c
      exact hJ4 oM _ _ rfl rfl
 clear e48 e48'
 refine Ok2.bv fun z z' ez ez'=>Ok2.it (by rw [ez,ez',he]) (fun c=>?_) fun c=>Ok2.bv fun y y' ey ey'=>?_
 · have e:z'=z:=by rw [ez,ez',he]
   rw [e]
   exact hJ48 _ (by rw [c];exact fun g=>by cases g)
 · have e:y'=y:=by rw [ey,ey',he]
   rw [e]
   refine hJ48 _ fun g=>?_
   rw [ez,dF] at c
   rw [ey,dF] at g
   exact ⟨c,g⟩
theorem strict_V (hp:okP R.p) (he:n'.op=n.op) (hle:n'.l.length=n.l.length) (h:∀ i:Int,0≤i∧i<(n.l.length:Int)→Kin rec rec' R (gel n.l i) (gel n'.l i)) (hl:n.l.length≤9) (hop:6≤n.op∧n.op≤54):Ok2 (eval_run_strict rec R n m1) (eval_run_strict rec' R n' m2) Vr:=by
 unfold eval_run_strict
 refine Ok2.bv fun J5 J5' e5 e5'=>?_
 have hJ5:∀ s t,s.2.2.2.2.2.2.2=t.2.2.2.2.2.2.2→s.2.2.2.2.2.2.2.length≤9→(∀ a∈s.2.2.2.2.2.2.2,ArgOk a)→Ok2 (J5 s) (J5' t) Vr:=by
  intro s t h0 h2 h3
  rw [e5,e5']
  dsimp only
  rw [←h0,he]
  exact Ok2.ob (Ok2.same (funcs_Apply_tot hop h2 h3)) fun v v' _ _ hv=>by
   obtain ⟨rfl,hv⟩:=hv
   exact flV hv
 clear e5 e5'
 refine Ok2.bv fun B11 B11' e11 e11'=>Ok2.lp (fun s t=>∃ i:Nat,s.1=(i:Int)∧t.1=(i:Int)∧i≤n.l.length∧s.2.2.2.2.2.2.2.2=t.2.2.2.2.2.2.2.2∧s.2.2.2.2.2.2.2.2.length=i∧∀ a∈s.2.2.2.2.2.2.2.2,ArgOk a) (fun s=>n.l.length-s.1.toNat) ⟨0,rfl,rfl,Nat.zero_le _,rfl,rfl,fun a ha=>by cases ha⟩ (by simp;omega) ?_
 rintro s t ⟨i,h1,h1',h3,h0,h5,h6⟩ next next' hn
 rw [e11,e11']
 refine Ok2.bv fun z z' ez ez'=>Ok2.it (by rw [ez,ez',h1,h1',hle]) (fun c=>?_) fun c=>hJ5 _ _ h0 (by dsimp only;omega) h6
 rw [ez,h1,dT] at c
 have hi:i<n.l.length:=oM
 refine Ok2.ck oM oM (Ok2.bv fun x x' ex ex'=>?_)
 rw [h1] at ex
 rw [h1'] at ex'
 have hx:=h i oM
 rw [←ex,← ex'] at hx
 refine Ok2.ob hx.ar fun y y' _ _ hy=>Ok2.bv fun J29 J29' e29 e29'=>?_
 have hJ29:∀ q u,q.2.2.1=u.2.2.1→q.2.1=u.2.1→q.2.2.2.map (·.v)=u.2.2.2.map (·.v)→(q.2.2.1=1∨q.2.2.1=2)→q.2.2.2.length≤6→(∀ g∈q.2.2.2,Rt g.v)→Ok2 (J29 q) (J29' u) Vr:=by
  rintro ⟨qm,qa,qc,ql⟩ ⟨um,ua,uc,ul⟩ g1 g2 g3 k2 k3 k4
  dsimp only at g1 g2 g3 k2 k3 k4
  subst g1 g2
  have gl:ql.length=ul.length:=by simpa using congrArg List.length g3
  rw [e29,e29']
  dsimp only
  refine Ok2.bv fun J33 J33' e33 e33'=>?_
  have hJ33:∀ u v,u.2.2.2.2.2.2=v.2.2.2.2.2.2→u.2.2.2.2.2.2.length≤6→(∀ v∈u.2.2.2.2.2.2,Rt v)→Ok2 (J33 u) (J33' v) Vr:=by
   intro u v u0 u1 u2
   rw [e33,e33']
   dsimp only
   rw [←u0,← h0]
   refine Ok2.ck (by simp only [List.length_cons,List.length_nil];omega) (by simp only [List.length_cons,List.length_nil];omega) (Ok2.bv fun w w' ew ew'=>Ok2.bv fun z9 z9' e9 e9'=>?_)
   rw [h1] at e9
   rw [h1'] at e9'
   have e:=succ64 e9 oM
   have e':=succ64 e9' oM
   refine hn _ _ ⟨i+1,e,e',hi,by dsimp only;rw [ew,ew'],by dsimp only;rw [ew];simp;omega,?_⟩ (by simp only [e,h1];omega)
   dsimp only
   rw [ew]
   exact all_snoc h6 ⟨by dsimp only;omega,u2,k2⟩
  clear e33 e33'
  refine Ok2.bv fun B43 B43' e43 e43'=>Ok2.lp (fun u v=>∃ j:Nat,u.1=(j:Int)∧v.1=(j:Int)∧j≤ql.length∧u.2.2.2.2.2.2.2=v.2.2.2.2.2.2.2∧u.2.2.2.2.2.2.2.length=j∧∀ v∈u.2.2.2.2.2.2.2,Rt v) (fun u=>ql.length-u.1.toNat) ⟨0,rfl,rfl,Nat.zero_le _,rfl,rfl,fun a ha=>by cases ha⟩ (by simp;omega) ?_
  rintro u v ⟨j,u1,u1',u2,u0,u3,u4⟩ next2 next2' hn2
  rw [e43,e43']
  refine Ok2.bv fun z z' ez ez'=>Ok2.it (by rw [ez,ez',u1,u1',gl]) (fun c=>?_) fun c=>hJ33 _ _ u0 (by dsimp only;omega) u4
  rw [ez,u1,dT] at c
  refine Ok2.ck oM oM (Ok2.bv fun g g' eg eg'=>?_)
  rw [u1] at eg
  rw [u1'] at eg'
  have hgv:g.v=g'.v:=by
   have e1:=gel_some (l:=ql) (i:=(j:Int)) oM
   have e2:=gel_some (l:=ul) (i:=(j:Int)) oM
   have e3:=congrArg (fun l:List V=>l[(j:Int).toNat]?) g3
   simp only [List.getElem?_map,e1,e2,Option.map_some,Option.some.injEq] at e3
   rw [eg,eg',e3]
  have hg:=k4 g (by rw [eg];exact gel_mem oM)
  refine Ok2.bv fun z1 z1' ez1 ez1'=>?_
  obtain rfl:z1'=z1:=by rw [ez1,ez1',hgv]
  have hbr:Ok (if z1'=true then funcs_Bears n.op else some default) fun _=>True:=Ok.it (fun _=>funcs_Bears_tot hop) fun _=>Ok.sm trivial
  rw [he]
  refine Ok2.ob (Ok2.same hbr) fun b b' _ _ hb=>?_
  obtain ⟨rfl,_⟩:=hb
  refine Ok2.bv fun z2 z2' ez2 ez2'=>Ok2.bv fun z3 z3' ez3 ez3'=>Ok2.it (by rw [ez3,ez3',ez2,ez2']) (fun _=>Ok2.sm ⟨hgv,hg⟩) fun _=>?_
  rw [←u0]
  refine Ok2.ck (by simp only [List.length_cons,List.length_nil];omega) (by simp only [List.length_cons,List.length_nil];omega) (Ok2.bv fun w w' ew ew'=>Ok2.bv fun z9 z9' e9 e9'=>?_)
  rw [u1] at e9
  rw [u1'] at e9'
  have e:=succ64 e9 oM
  have e':=succ64 e9' oM
  refine hn2 _ _ ⟨j+1,e,e',oM,by dsimp only;rw [ew,ew',hgv],by dsimp only;rw [ew];simp;omega,?_⟩ (by simp only [e,u1];omega)
  dsimp only
  rw [ew]
  exact all_snoc u4 hg
 clear e29 e29'
 refine Ok2.it hy.1 (fun c=>?_) fun _=>?_
 · obtain ⟨ey,hbx⟩:=hy.2 c
   subst ey
   have:=hbx.c0;have:=hbx.c1;have:=hbx.c2;have:=hbx.c3
   refine Ok2.bv fun z1 z1' e1 e1'=>Ok2.bv fun z2 z2' e2 e2'=>?_
   have g1:z1'=z1:=by rw [e1,e1']
   have g2:z2'=z2:=by rw [e2,e2',g1]
   have f1:=(wI64 e1).2 oM
   have f2:=(wI64 e2).2 oM
   refine Ok2.ob (Ok2.same (cells_ok hbx)) fun l l' _ _ hl6=>?_
   obtain ⟨rfl,hl6⟩:=hl6
   refine Ok2.bv fun B70 B70' e70 e70'=>?_
   have hf:Ok2 (foldO B70 (s.2.1,[]) l) (foldO B70' (t.2.1,[]) l) fun s' t'=>s'.2=t'.2∧s'.2.length=0+l.length∧∀ g∈s'.2,Rt g.v:=by
    refine foldO_rel (N:=6) (fun (s' t':(List (C × Bool)) × List Gt) k=>s'.2=t'.2∧s'.2.length=k∧∀ g∈s'.2,Rt g.v) ?_ l (s.2.1,[]) (t.2.1,[]) 0 oM ⟨rfl,rfl,fun a (ha:a∈([]:List Gt))=>by cases ha⟩
    rintro s' t' k x hk ⟨g0,g2,g3⟩
    rw [e70,e70']
    refine Ok2.ob (cell_rel hp x) fun y2 y2' _ _ hy2=>Ok2.ck (by simp only [List.length_cons,List.length_nil];omega) (by rw [←g0];simp only [List.length_cons,List.length_nil];omega) (Ok2.bv fun w w' ew ew'=>Ok2.sm ⟨?_,?_,?_⟩)
    · dsimp only
      rw [ew,ew',g0,hy2.1]
    · dsimp only
      rw [ew]
      simp
      omega
    · dsimp only
      rw [ew]
      exact all_snoc g3 hy2.2.1
   refine Ok2.ob hf fun f f' _ _ hf=>hJ29 _ _ g2.symm rfl (by dsimp only;rw [hf.1]) (by dsimp only;omega) (by have:=hf.2.1;dsimp only;omega) hf.2.2
 · refine Ok2.ob (hx.ev _ _) fun y2 y2' _ _ hy2=>Ok2.ck (by simp) (by simp) (Ok2.bv fun w w' ew ew'=>?_)
   refine hJ29 _ _ rfl rfl (by dsimp only;rw [ew,ew'];simp [hy2.1]) (.inl rfl) (by dsimp only;rw [ew];simp) ?_
   dsimp only
   rw [ew]
   intro g hg
   simp at hg
   subst hg
   exact hy2.2
theorem eval_VB (hp:okP R.p) {d:Nat} (hn:okN (d+1) n) (hk':n'.k=n.k) (he:n'.op=n.op) (hv':n'.v=n.v) (hle:n'.l.length=n.l.length) (hlf:n.k≤4→n'=n) (h:5≤n.k→∀ i:Int,0≤i∧i<(n.l.length:Int)→∀ a b,Ok2 (rec R (gel n.l i) a) (rec' R (gel n'.l i) b) Vr) (ha:n.k=8→6≤n.op→∀ i:Int,0≤i∧i<(n.l.length:Int)→Ok2 (eval_Area R.p (gel n.l i)) (eval_Area R.p (gel n'.l i)) fun y y'=>y.2.2=y'.2.2∧(y.2.2=true→y'=y∧Box y.1 y.2.1)):Ok2 (eval_run_eval_B rec R n m1) (eval_run_eval_B rec' R n' m2) Vr:=by
 obtain ⟨hnb,hn⟩:=hn
 have ff:∀ {c:Int},1≤c∧c≤7→Ok2 (obind (value_Fail c) fun v=>obind (eval_run_made R v) fun y=>some (y,m1)) (obind (value_Fail c) fun v=>obind (eval_run_made R v) fun y=>some (y,m2)) Vr:=fun hc=>Ok2.ob (Ok2.same (value_Fail_tot hc)) fun b b' _ _ hb=>by
  obtain ⟨rfl,hb⟩:=hb
  exact flV hb.1
 unfold eval_run_eval_B
 refine Ok2.bv fun z1 z1' e1 e1'=>Ok2.it (by rw [e1,e1',hk']) (fun c=>?_) fun c1=>?_
 · rw [e1,dT] at c
   have hv:Rt n.v:=by
    rcases hn with h|h|h|h|h|h|h
    · exact h.2
    all_goals omega
   rw [hv']
   exact flV hv
 rw [e1,dF] at c1
 refine Ok2.bv fun J9 J9' e9 e9'=>?_
 have hJ9:∀ s:Bool,(s=true→n.k≤4)→(s=false→n.k≠2∧n.k≠3∧n.k≠4)→Ok2 (J9 s) (J9' s) Vr:=by
  intro s ht hs
  rw [e9,e9']
  refine Ok2.it rfl (fun g=>?_) fun c=>?_
  · rw [hlf (ht g)]
    refine Ok2.ob (Ok2.same (area_ok (p:=R.p) hnb)) fun y y' _ _ hy=>?_
    obtain ⟨rfl,hy⟩:=hy
    refine Ok2.bv fun z2 z2' e2 e2'=>Ok2.it (by rw [e2,e2']) (fun _=>ff oM) fun _=>Ok2.bv fun z3 z3' e3 e3'=>Ok2.it (by rw [e3,e3']) (fun _=>ff oM) fun _=>?_
    exact Ok2.ob (cell_rel hp _) fun y y' _ _ hy=>Ok2.sm ⟨by dsimp only;rw [hy.1],hy.2.1⟩
  · have hk:=hs c
    refine Ok2.bv fun J27 J27' e27 e27'=>?_
    have hJ27:∀ s:Bool,(s=true→n.k=5∨n.k=6)→(s=false→n.k≠5∧n.k≠6)→Ok2 (J27 s) (J27' s) Vr:=by
     intro s hs1 hs2
     rw [e27,e27']
     refine Ok2.it rfl (fun c=>?_) fun c=>?_
     · have hk5:=hs1 c
       have hq:n.l.length=1∧∀ x∈n.l,okN d x:=by
        rcases hn with h|h|h|h|h|h|h
        · omega
        · omega
        · omega
        · omega
        · exact h.2
        · omega
        · omega
       refine Ok2.ck oM oM (Ok2.bv fun x x' ex ex'=>?_)
       subst ex ex'
       refine Ok2.ob (h oM 0 oM m1 m2) fun y y' _ _ hy=>Ok2.bv fun z z' ez ez'=>Ok2.it (by rw [ez,ez',hy.1]) (fun _=>Ok2.sm hy) fun _=>?_
       rw [←hy.1,hk']
       exact Ok2.ob (Ok2.same (funcs_Unary_tot hy.2)) fun v v' _ _ hv=>by
        obtain ⟨rfl,hv⟩:=hv
        exact flV hv
     · have hk5:=hs2 c
       refine Ok2.bv fun z4 z4' e4 e4'=>Ok2.it (by rw [e4,e4',hk']) (fun c=>?_) fun c=>?_
       · rw [e4,dT] at c
         have hq:n.l.length=2∧(1≤n.op∧n.op≤11)∧∀ x∈n.l,okN d x:=by
          rcases hn with h|h|h|h|h|h|h
          · omega
          · omega
          · omega
          · omega
          · omega
          · exact h.2
          · omega
         refine Ok2.ck oM oM (Ok2.bv fun x x' ex ex'=>?_)
         subst ex ex'
         refine Ok2.ob (h oM 0 oM m1 m2) fun y y' _ _ hy=>Ok2.bv fun z z' ez ez'=>Ok2.it (by rw [ez,ez',hy.1]) (fun _=>Ok2.sm hy) fun cx=>Ok2.ck oM oM (Ok2.bv fun x2 x2' ex2 ex2'=>?_)
         subst ex2 ex2'
         refine Ok2.ob (h oM 1 oM y.2 y'.2) fun y2 y2' _ _ hy2=>Ok2.bv fun z2 z2' ez2 ez2'=>Ok2.it (by rw [ez2,ez2',hy2.1]) (fun _=>Ok2.sm hy2) fun cy=>?_
         rw [ez,dF] at cx
         rw [ez2,dF] at cy
         rw [←hy.1,← hy2.1,he]
         exact Ok2.ob (Ok2.same (funcs_Binary_tot hq.2.1 hy.2 hy2.2 cx cy)) fun v v' _ _ hv=>by
          obtain ⟨rfl,hv⟩:=hv
          exact flV hv
       · rw [e4,dF] at c
         have hk8:n.k=8:=by
          rcases hn with h|h|h|h|h|h|h
          all_goals first|omega|exact h.1
         have hq:(1≤n.op∧n.op≤54)∧n.l.length≤9∧(n.op≤5→1≤n.l.length)∧(n.op=1∨n.op=2→2≤n.l.length)∧∀ x∈n.l,okN d x:=by
          rcases hn with h|h|h|h|h|h|h
          · omega
          · omega
          · omega
          · omega
          · omega
          · omega
          · exact h.2
         refine Ok2.bv fun z5 z5' e5 e5'=>Ok2.it (by rw [e5,e5',he]) (fun c=>?_) fun c=>?_
         · rw [e5,dT] at c
           exact Ok2.ob (lazy_V he hle (h oM) ⟨hq.2.2.1 c,hq.2.1⟩ hq.2.2.2.1 ⟨hq.1.1,c⟩) fun y y' _ _ hy=>Ok2.sm hy
         · rw [e5,dF] at c
           exact Ok2.ob (strict_V hp he hle (fun i hi=>⟨ha hk8 oM i hi,h oM i hi⟩) hq.2.1 ⟨oM,hq.1.2⟩) fun y y' _ _ hy=>Ok2.sm hy
    clear e27 e27'
    refine Ok2.bv fun z z' ez ez'=>?_
    obtain rfl:z'=z:=by rw [ez,ez',hk']
    refine Ok2.it rfl (fun c=>hJ27 _ (fun _=>?_) fun g=>?_) fun c=>Ok2.bv fun y y' ey ey'=>?_
    · rw [ez,dT] at c
      exact .inl c
    · rw [c] at g
      cases g
    · obtain rfl:y'=y:=by rw [ey,ey',hk']
      refine hJ27 _ (fun g=>?_) fun g=>?_
      · rw [ey,dT] at g
        exact .inr g
      · rw [ey,dF] at g
        rw [ez,dF] at c
        exact ⟨c,g⟩
 clear e9 e9'
 refine Ok2.bv fun z z' ez ez'=>?_
 obtain rfl:z'=z:=by rw [ez,ez',hk']
 refine Ok2.it rfl (fun c=>hJ9 _ (fun _=>?_) fun g=>?_) fun c=>Ok2.bv fun z2 z2' ez2 ez2'=>?_
 · rw [ez,dT] at c;omega
 · rw [c] at g
   cases g
 obtain rfl:z2'=z2:=by rw [ez2,ez2',hk']
 refine Ok2.it rfl (fun c2=>hJ9 _ (fun _=>?_) fun g=>?_) fun c2=>Ok2.bv fun z3 z3' ez3 ez3'=>?_
 · rw [ez2,dT] at c2;omega
 · rw [c2] at g
   cases g
 obtain rfl:z3'=z3:=by rw [ez3,ez3',hk']
 refine hJ9 _ (fun g=>?_) fun g=>?_
 · rw [ez3,dT] at g;omega
 rw [ez,dF] at c
 rw [ez2,dF] at c2
 rw [ez3,dF] at g
 exact ⟨c,c2,g⟩
theorem okN.kid {d:Nat} {x:Nd} (h:okN (d+1) n) (h5:5≤n.k) (hx:x∈n.l):okN d x:=by
 rcases h.2 with g|g|g|g|g|g|g
 · omega
 · omega
 · omega
 · omega
 · exact g.2.2 x hx
 · exact g.2.2.2 x hx
 · exact g.2.2.2.2.2 x hx
theorem eval_V (hp:okP R.p):∀ (d k k':Nat) (n:Nd) (m1 m2:List (C × Bool)),d≤k→d≤k'→okN d n→Ok2 (eval_run_eval k R n m1) (eval_run_eval k' R n m2) Vr
 |0,_,_,_,_,_,_,_,h=>h.elim
 |d+1,0,_,_,_,_,hk,_,_=>absurd hk oM
 |d+1,k+1,0,_,_,_,_,hk,_=>absurd hk oM
 |d+1,k+1,k'+1,n,m1,m2,hk,hk',h=>by
  rw [ev_step,ev_step]
  exact eval_VB hp h rfl rfl rfl rfl (fun _=>rfl) (fun h5 i hi a b=>eval_V hp d k k' _ a b oM oM (h.kid h5 (gel_mem hi))) fun h8 _ i hi=>(Ok2.same (area_ok (p:=R.p) (h.kid oM (gel_mem hi)).ndB)).mono fun a b hab=>⟨by rw [hab.1],fun g=>⟨hab.1.symm,hab.2 g⟩⟩
end Go.Sp
end
section
namespace Go.Sp
open Go.Stp Go.ValP
def fitB (c:Int) (n:Nat):Bool:=(tree_Fits c (n:Int)).getD false
theorem fitB_all:((List.range 54).all fun c=>(List.range 10).all fun n=>decide (tree_Fits ((c+1:Nat):Int) ((n:Nat):Int)=some (fitB ((c+1:Nat):Int) n)))=true:=by decide +kernel
theorem fitB_ex:((List.range 54).all fun c=>(List.range 4).any fun n=>fitB ((c+1:Nat):Int) n)=true:=by decide +kernel
theorem fits_eq {c:Int} {n:Nat} (h:1≤c∧c≤54) (hn:n≤9):tree_Fits c (n:Int)=some (fitB c n):=by
 have h1:=List.all_eq_true.1 (List.all_eq_true.1 fitB_all (c-1).toNat (List.mem_range.2 oM)) n (List.mem_range.2 oM)
 rw [show (((c-1).toNat+1:Nat):Int)=c by omega] at h1
 exact of_decide_eq_true h1
theorem fits_some {c:Int} (h:1≤c∧c≤54):∃ n,n≤3∧fitB c n=true:=by
 have h1:=List.all_eq_true.1 fitB_ex (c-1).toNat (List.mem_range.2 oM)
 obtain ⟨n,hn,h2⟩:=List.any_eq_true.1 h1
 rw [show (((c-1).toNat+1:Nat):Int)=c by omega] at h2
 exact ⟨n,by have:=List.mem_range.1 hn;omega,h2⟩
structure Seeded (Q:Nat→Nd→Prop):Prop where
 lit:∀ d v,Rt v→Q (d+1) ⟨1,0,v,r0,r0,[],[]⟩
 cell:∀ d (r:Rf),0≤r.c.c∧r.c.c≤3∧0≤r.c.r∧r.c.r≤3∧0≤r.c.s∧r.c.s≤1→Q (d+1) ⟨2,0,⟨0,0,[]⟩,r,r0,[],[]⟩
 span:∀ d (r:Rf) (x y:Int),0≤r.c.c∧r.c.c≤3∧0≤r.c.r∧r.c.r≤3∧0≤r.c.s∧r.c.s≤1→r.c.c≤x∧x≤r.c.c+1→r.c.r≤y∧y≤r.c.r+2→Q (d+1) ⟨3,0,⟨0,0,[]⟩,r,⟨⟨r.c.s,x,y⟩,r.ac,r.ar⟩,[],[]⟩
 un:∀ d k x,k=5∨k=6→Q d x→Q (d+1) ⟨k,0,⟨0,0,[]⟩,r0,r0,[],[x]⟩
 bin:∀ d op x y,1≤op∧op≤11→Q d x→Q d y→Q (d+1) ⟨7,op,⟨0,0,[]⟩,r0,r0,[],[x,y]⟩
 call:∀ d op (l:List Nd),1≤op∧op≤54→l.length≤3→fitB op l.length=true→(∀ x∈l,Q d x)→Q (d+1) ⟨8,op,⟨0,0,[]⟩,r0,r0,[],l⟩
theorem refQ_ok {n k:Int}:Ok (reckonerlaw05_ref n k) fun r=>0≤r.c.c∧r.c.c≤3∧0≤r.c.r∧r.c.r≤3∧0≤r.c.s∧r.c.s≤1:=by
 unfold reckonerlaw05_ref
 refine Ok.bv fun _ _=>Ok.bv fun _ _=>Ok.bv fun _ _=>Ok.bv fun _ _=>Ok.bv fun _ _=>Ok.bv fun _ _=>Ok.bv fun z1 e1=>Ok.bv fun z2 e2=>Ok.bv fun z3 e3=>Ok.bv fun J eJ=>?_
 have hJ:∀ s,0≤s∧s≤1→Ok (J s) fun r=>0≤r.c.c∧r.c.c≤3∧0≤r.c.r∧r.c.r≤3∧0≤r.c.s∧r.c.s≤1:=by
  intro s hs
  rw [eJ]
  have h1:=and3 n
  have h2:=and3 z2
  rw [←e1] at h1
  rw [←e3] at h2
  exact Ok.sm ⟨h1.1,h1.2,h2.1,h2.2,hs.1,hs.2⟩
 exact Ok.bv fun _ _=>Ok.bv fun _ _=>Ok.bv fun _ _=>Ok.it (fun _=>hJ 1 oM) fun _=>hJ 0 oM
theorem okN_seeded:Seeded okN where
 lit d v h:=okLit h
 cell d r h:=okCell ⟨h.1,h.2.1,h.2.2.1,h.2.2.2.1⟩
 span d r x y h hx hy:=⟨⟨fun h=>by simp at h,fun _=>⟨h.1,by dsimp only;omega,by dsimp only;omega,by dsimp only;omega,h.2.2.1,by dsimp only;omega,by dsimp only;omega,by dsimp only;omega⟩⟩,.inr (.inr (.inl rfl))⟩
 un d k x hk hx:=okUnary hk hx
 bin d op x y ho hx hy:=okBinary ho hx hy
 call d op l ho hl hf hx:=by
  obtain ⟨b,hb,h⟩:=fits_tot ho (show l.length≤9 by omega)
  rw [fits_eq ho oM,hf] at hb
  cases hb
  exact okApply ho oM (h rfl).1 (h rfl).2 hx
variable {rec:(List Int)→Int→Option ((Nd) × (List Int))} {Q:Nat→Nd→Prop}
theorem formQB_ok (hQ:Seeded Q) {d N:Nat} (hd:d≤1000) (hN:N≤1000) {x0:List Int} (hx:Fs N x0) (h:∀ l,1≤d→Fs N l→Ok (rec l ((d:Int)-1)) fun r=>Q d r.1∧Fs N r.2):Ok (reckonerlaw05_Seed_Formula_B rec x0 (d:Int)) fun r=>Q (d+1) r.1∧Fs N r.2:=by
 unfold reckonerlaw05_Seed_Formula_B
 refine Ok.bv fun J3 e3=>?_
 have hJ3:∀ s,0≤s.1∧s.1≤255→Fs N s.2→Ok (J3 s) fun r=>Q (d+1) r.1∧Fs N r.2:=by
  intro s hc hs
  rw [e3]
  have d16:Int.tdiv s.1 16=s.1 / 16:=Int.tdiv_eq_ediv_of_nonneg hc.1
  have dv:∀ {z:Int},z=IntKind.wrap .i64 (Int.tdiv s.1 16)→0≤z∧z≤15:=by
   intro z e
   have:=(wI64 e).2 oM
   omega
  refine Ok.bv fun z30 e30=>Ok.bv fun J7 e7=>?_
  have hJ7:∀ q:Int,0≤q∧q<16→(6≤q→1≤d)→Ok (J7 q) fun r=>Q (d+1) r.1∧Fs N r.2:=by
   intro q hq hq6
   rw [e7]
   have hr:6≤q→∀ {z:Int} (l:List Int),z=IntKind.wrap .i64 ((d:Int)-1)→Fs N l→Ok (rec l z) fun r=>Q d r.1∧Fs N r.2:=by
    intro g z l e hl
    have h1:=hq6 g
    have e:=(wI64 e).2 oM
    rw [e]
    exact h l h1 hl
   refine Ok.bv fun z1 e1=>Ok.it (fun c=>?_) fun c1=>?_
   · refine Ok.bv fun z2 e2=>Ok.bv fun z3 e3'=>?_
     have h2:=dv e2
     have h3:=(wI64 e3').2 oM
     exact Ok.ob (value_Num_tot oM) fun v ev hv=>Ok.ob (Ok.sm (P:=fun n=>n=(⟨1,0,v,r0,r0,[],[]⟩:Nd)) rfl) fun n en hn=>Ok.sm ⟨by rw [hn];exact hQ.lit _ _ hv.1,hs⟩
   rw [e1,dF] at c1
   refine Ok.bv fun z2 e2=>Ok.it (fun c=>?_) fun c2=>?_
   · refine Ok.ob value_Text_tot fun v1 _ hv1=>Ok.ob (Ok.sm (P:=fun n=>n=(⟨1,0,v1,r0,r0,[],[]⟩:Nd)) rfl) fun n1 _ hn1=>Ok.bv fun _ _=>Ok.bv fun _ _=>Ok.ob value_Bool_tot fun v2 _ hv2=>Ok.ob (Ok.sm (P:=fun n=>n=(⟨1,0,v2,r0,r0,[],[]⟩:Nd)) rfl) fun n2 _ hn2=>Ok.bv fun z3 e3'=>Ok.bv fun z4 e4=>Ok.bv fun z5 e5=>?_
     have h3:=dv e3'
     have h4:z4=z3 % 7:=by rw [e4];exact Int.tmod_eq_emod_of_nonneg h3.1
     have h5:=(wI64 e5).2 oM
     refine Ok.ob (value_Fail_tot oM) fun v3 _ hv3=>Ok.ob (Ok.sm (P:=fun n=>n=(⟨1,0,v3,r0,r0,[],[]⟩:Nd)) rfl) fun n3 _ hn3=>Ok.ob (Ok.sm (P:=fun n=>n=(⟨1,0,⟨0,0,[]⟩,r0,r0,[],[]⟩:Nd)) rfl) fun n4 _ hn4=>Ok.bv fun z6 e6=>?_
     have h6:=(wI64 e6).2 (by rw [Int.tdiv_eq_ediv_of_nonneg hc.1];omega)
     rw [Int.tdiv_eq_ediv_of_nonneg hc.1] at h6
     refine Ok.ck (by simp only [List.length_cons,List.length_nil];omega) (Ok.bv fun n en=>Ok.sm ⟨?_,hs⟩)
     refine gelP (l:=[n1,n2,n3,n4]) (P:=Q (d+1)) ?_ en (by simp only [List.length_cons,List.length_nil];omega)
     intro x hx
     simp only [List.mem_cons,List.not_mem_nil,or_false] at hx
     rcases hx with rfl|rfl|rfl|rfl
     · rw [hn1];exact hQ.lit _ _ hv1.1
     · rw [hn2];exact hQ.lit _ _ hv2
     · rw [hn3];exact hQ.lit _ _ hv3.1
     · rw [hn4];exact hQ.lit _ _ rt0
   rw [e2,dF] at c2
   refine Ok.bv fun z3 e3'=>Ok.it (fun c=>?_) fun c3=>?_
   · refine Ok.bv fun z e=>Ok.ob refQ_ok fun r _ hr=>Ok.ob (Ok.sm (P:=fun n=>n=(⟨2,0,⟨0,0,[]⟩,r,r0,[],[]⟩:Nd)) rfl) fun n _ hn=>Ok.sm ⟨by rw [hn];exact hQ.cell _ _ hr,hs⟩
   rw [e3',dF] at c3
   refine Ok.bv fun z4 e4=>Ok.it (fun c=>?_) fun c4=>?_
   · refine Ok.bv fun z e=>Ok.ob refQ_ok fun r _ hr=>Ok.bv fun z5 e5=>Ok.bv fun z6 e6=>Ok.bv fun z7 e7'=>Ok.bv fun z8 e8=>Ok.bv fun z9 e9=>?_
     have h5:=and1 s.1
     rw [←e5] at h5
     have h6:=(wI64 e6).2 oM
     have h7:=(wI64 e7').2 (by rw [Int.tdiv_eq_ediv_of_nonneg hc.1];omega)
     rw [Int.tdiv_eq_ediv_of_nonneg hc.1] at h7
     have h8:z8=z7 % 3:=by rw [e8];exact Int.tmod_eq_emod_of_nonneg oM
     have h9:=(wI64 e9).2 oM
     refine Ok.ob (Ok.sm (P:=fun n=>n=(⟨3,0,⟨0,0,[]⟩,r,⟨⟨r.c.s,z6,z9⟩,r.ac,r.ar⟩,[],[]⟩:Nd)) rfl) fun n _ hn=>Ok.sm ⟨?_,hs⟩
     rw [hn]
     exact hQ.span _ _ _ _ hr oM oM
   rw [e4,dF] at c4
   have g6:6≤q:=oM
   refine Ok.bv fun z5 e5=>Ok.it (fun c=>?_) fun c5=>?_
   · exact Ok.bv fun z e=>Ok.ob (hr g6 _ e hs) fun y _ hy=>Ok.ob (Ok.sm (P:=fun n=>n=(⟨5,0,⟨0,0,[]⟩,r0,r0,[],[y.1]⟩:Nd)) rfl) fun n _ hn=>Ok.sm ⟨by rw [hn];exact hQ.un _ _ _ (.inl rfl) hy.1,hy.2⟩
   refine Ok.bv fun z6 e6=>Ok.it (fun c=>?_) fun c6=>?_
   · exact Ok.bv fun z e=>Ok.ob (hr g6 _ e hs) fun y _ hy=>Ok.ob (Ok.sm (P:=fun n=>n=(⟨6,0,⟨0,0,[]⟩,r0,r0,[],[y.1]⟩:Nd)) rfl) fun n _ hn=>Ok.sm ⟨by rw [hn];exact hQ.un _ _ _ (.inr rfl) hy.1,hy.2⟩
   refine Ok.bv fun z7 e7'=>Ok.it (fun c=>?_) fun c7=>?_
   · refine Ok.bv fun z e=>Ok.ob (hr g6 _ e hs) fun y _ hy=>Ok.bv fun z8 e8=>Ok.bv fun z9 e9=>Ok.bv fun z10 e10=>Ok.ob (hr g6 _ e10 hy.2) fun y2 _ hy2=>?_
     have h8:z8=s.1 % 11:=by rw [e8];exact Int.tmod_eq_emod_of_nonneg hc.1
     have h9:=(wI64 e9).2 oM
     exact Ok.ob (Ok.sm (P:=fun n=>n=(⟨7,z9,⟨0,0,[]⟩,r0,r0,[],[y.1,y2.1]⟩:Nd)) rfl) fun n _ hn=>Ok.sm ⟨by rw [hn];exact hQ.bin _ _ _ _ oM hy.1 hy2.1,hy2.2⟩
   refine Ok.bv fun z8 e8=>Ok.bv fun z9 e9=>Ok.bv fun z10 e10=>Ok.bv fun J89 e89=>?_
   have hJ89:∀ f:Int,1≤f∧f≤54→Ok (J89 f) fun r=>Q (d+1) r.1∧Fs N r.2:=by
    intro f hf
    rw [e89]
    refine Ok.bv fun J91 e91=>?_
    have hJ91:∀ u,Fs N u.1→u.2.length≤3→fitB f u.2.length=true→(∀ x∈u.2,Q d x)→Ok (J91 u) fun r=>Q (d+1) r.1∧Fs N r.2:=by
     intro u u1 u2 u3 u5
     rw [e91]
     dsimp only
     rw [apply_eq _ _ oM]
     exact Ok.os fun n en=>Ok.sm ⟨by rw [en];exact hQ.call _ _ _ hf u2 u3 u5,u1⟩
    clear e91
    obtain ⟨k0,hk0,hk0'⟩:=fits_some hf
    refine Ok.bv fun B97 e97=>Ok.lp (fun u=>Fs N u.1∧u.2.length≤k0∧∀ x∈u.2,Q d x) (fun u=>9-u.2.length) ⟨hs,by simp,fun x hx=>by cases hx⟩ (by simp) ?_
    rintro u ⟨u1,u2,u3⟩ next hn
    rw [e97]
    refine Ok.bv fun y1 f1=>?_
    have hy1:y1=true:=by rw [f1,dT];omega
    rw [hy1,if_pos rfl,fits_eq hf oM]
    refine Ok.os fun y2 f2=>Ok.bv fun y3 f3=>Ok.bv fun y4 f4=>Ok.it (fun c=>?_) fun c=>?_
    · rw [f4,f3,f2] at c
      have hne:u.2.length≠k0:=fun e=>by rw [e,hk0'] at c;cases c
      refine Ok.bv fun z e=>Ok.ob (hr g6 _ e u1) fun y _ hy=>Ok.ck (by simp only [List.length_cons,List.length_nil];omega) (Ok.bv fun w ew=>?_)
      refine hn _ ⟨hy.2,by dsimp only;rw [ew];simp;omega,?_⟩ ?_
      · dsimp only
        rw [ew]
        exact all_snoc u3 hy.1
      · dsimp only
        rw [ew]
        simp
        omega
    · rw [f4,f3,f2] at c
      exact hJ91 _ u1 (by dsimp only;omega) (by simpa using c) u3
   clear e89
   have h8:=(wI64 e8).2 (by rw [Int.tdiv_eq_ediv_of_nonneg hc.1];omega)
   rw [Int.tdiv_eq_ediv_of_nonneg hc.1] at h8
   have h9:z9=z8 % 54:=by rw [e9];exact Int.tmod_eq_emod_of_nonneg oM
   have h10:=(wI64 e10).2 oM
   refine Ok.bv fun z11 e11=>Ok.it (fun c=>?_) fun c=>hJ89 _ oM
   rw [e11,dT] at c
   refine Ok.ck oM (Ok.bv fun y1 f1=>Ok.bv fun y2 f2=>Ok.bv fun y3 f3=>Ok.bv fun y4 f4=>?_)
   have g1:=gelP hs.by_ f1 oM
   have g2:=(wI64 f2).2 oM
   have g3:y3=y2 % 54:=by rw [f3];exact Int.tmod_eq_emod_of_nonneg oM
   have g4:=(wI64 f4).2 oM
   exact hJ89 _ oM
  clear e7
  have h30:z30=s.1 % 16:=by rw [e30];exact Int.tmod_eq_emod_of_nonneg hc.1
  refine Ok.bv fun z1 e1=>Ok.bv fun z2 e2=>Ok.bv fun z3 e3'=>Ok.it (fun c=>?_) fun c=>?_
  · refine Ok.bv fun z4 e4=>?_
    have h4:z4=s.1 % 6:=by rw [e4];exact Int.tmod_eq_emod_of_nonneg hc.1
    exact hJ7 _ oM fun g=>oM
  · rw [e3',Bool.or_eq_false_iff,e1,dF] at c
    exact hJ7 _ oM fun g=>oM
 clear e3
 refine Ok.bv fun z1 e1=>Ok.it (fun c=>?_) fun c=>hJ3 _ (by simp) hx
 rw [e1,dT] at c
 refine Ok.ck oM (Ok.bv fun y1 f1=>Ok.bv fun y2 f2=>Ok.ck oM (Ok.bv fun w ew=>?_))
 have g1:=gelP hx.by_ f1 oM
 have g2:=(wI64 f2).2 oM
 refine hJ3 _ (by dsimp only;omega) ⟨?_,?_⟩
 · have:=cutL_len x0 1 (x0.length:Int) oM
   have:=hx.len
   dsimp only
   rw [ew]
   omega
 · dsimp only
   rw [ew]
   exact all_cut hx.by_ _ _
theorem formulaQ_ok (hQ:Seeded Q) {N:Nat} (hN:N≤1000):∀ (d k:Nat) (x0:List Int),d≤1000→d<k→Fs N x0→Ok (reckonerlaw05_Seed_Formula k x0 (d:Int)) fun r=>Q (d+1) r.1∧Fs N r.2
 |_,0,_,_,hk,_=>absurd hk oM
 |0,k+1,x0,hd,hk,hx=>formQB_ok hQ hd hN hx fun l h1 _=>absurd h1 oM
 |d+1,k+1,x0,hd,hk,hx=>formQB_ok hQ hd hN hx fun l h1 hl=>by
  have:=formulaQ_ok hQ hN d k l oM oM hl
  rw [show ((d+1:Nat):Int)-1=(d:Int) by omega]
  exact this
end Go.Sp
end
section
namespace Go.Sp
open Go.Stp Go.ValP
theorem fit14:reckonerlaw14_fit=some true:=by kernel_rfl
def litN (v:V):Nd:=⟨1,0,v,r0,r0,[],[]⟩
theorem value_eq {v:V}:tree_Value v=some (litN v):=rfl
theorem all_ok {p:List V} {n0:Nd} {S:Int} (I:Nat→Nd→List Nd→Prop) (hS:tree_Size KK n0=some S) (hb:0≤S∧S≤1000000) (h0:I 0 n0 [n0]) (hl:∀ i x out,I i x out→out.length=i+1)
 (step:∀ i x out,I i x out→x.k≠1→(i:Int)<2*S→Ok (step_One KK x p) fun m=>I (i+1) m (out++[m])):Ok (step_All n0 p) fun out=>∃ i x,I i x out∧(x.k=1∨(i:Int)=2*S):=by
 unfold step_All
 refine Ok.bv fun J eJ=>?_
 rw [hS]
 refine Ok.os fun y ey=>Ok.bv fun z ez=>Ok.bv fun B eB=>?_
 have hz:=(wI64 ez).2 oM
 rw [ey] at hz
 refine Ok.lp (fun s=>∃ i x out,s=(((i:Nat):Int),x.k,x.op,x.v.k,x.v.n,x.v.s,x.a.c.s,x.a.c.c,x.a.c.r,x.a.ac,x.a.ar,x.b.c.s,x.b.c.c,x.b.c.r,x.b.ac,x.b.ar,x.nm,x.l,out)∧I i x out∧(i:Int)≤2*S) (fun s=>(2*S).toNat-s.1.toNat) ⟨0,n0,[n0],rfl,h0,oM⟩ (by dsimp only;omega) ?_
 rintro s ⟨i,⟨k,op,v,ra,rb,nm,l⟩,out,rfl,hI,hi⟩ next hn
 have hol:=hl _ _ _ hI
 rw [eB]
 refine Ok.bv fun z1 e1=>Ok.it (fun c=>?_) fun c=>?_
 · rw [e1,hz,dT] at c
   dsimp only at c
   have hd:step_done ⟨k,op,v,ra,rb,nm,l⟩=some (decide (k=1)):=rfl
   refine Ok.ob (R:=fun b=>b=decide (k=1)) ⟨_,hd,rfl⟩ fun b _ hb=>Ok.it (fun c2=>?_) fun c2=>?_
   · rw [hb,dT] at c2
     rw [eJ]
     exact Ok.sm ⟨i,_,hI,.inl c2⟩
   · rw [hb,dF] at c2
     refine Ok.ob (step i ⟨k,op,v,ra,rb,nm,l⟩ out hI c2 c) fun m em hm=>Ok.ck (by dsimp only [List.length_cons,List.length_nil];omega) (Ok.bv fun o eo=>Ok.bv fun z2 e2=>?_)
     have e2':=(wI64 e2).2 (by dsimp only;omega)
     dsimp only at e2'
     exact hn _ ⟨i+1,m,o,by rw [e2'];simp,by rw [eo];exact hm,oM⟩ (by dsimp only;omega)
 · rw [e1,hz,dF] at c
   dsimp only at c
   rw [eJ]
   exact Ok.sm ⟨i,_,hI,.inr oM⟩
end Go.Sp
end
section
namespace Go.Sp
open Go.Stp Go.ValP
inductive Pf:Nat→Nd→Prop
 |lit (d:Nat) (v:V):Rt v→Pf (d+1) ⟨1,0,v,r0,r0,[],[]⟩
 |cell (d:Nat) (r:Rf):(0≤r.c.c∧r.c.c≤3∧0≤r.c.r∧r.c.r≤3∧0≤r.c.s∧r.c.s≤1)→Pf (d+1) ⟨2,0,⟨0,0,[]⟩,r,r0,[],[]⟩
 |span (d:Nat) (r:Rf) (x y:Int):(0≤r.c.c∧r.c.c≤3∧0≤r.c.r∧r.c.r≤3∧0≤r.c.s∧r.c.s≤1)→(r.c.c≤x∧x≤r.c.c+1)→(r.c.r≤y∧y≤r.c.r+2)→Pf (d+1) ⟨3,0,⟨0,0,[]⟩,r,⟨⟨r.c.s,x,y⟩,r.ac,r.ar⟩,[],[]⟩
 |un (d:Nat) (k:Int) (x:Nd):(k=5∨k=6)→Pf d x→Pf (d+1) ⟨k,0,⟨0,0,[]⟩,r0,r0,[],[x]⟩
 |bin (d:Nat) (op:Int) (x y:Nd):(1≤op∧op≤11)→Pf d x→Pf d y→Pf (d+1) ⟨7,op,⟨0,0,[]⟩,r0,r0,[],[x,y]⟩
 |call (d:Nat) (op:Int) (l:List Nd):(1≤op∧op≤54)→l.length≤3→fitB op l.length=true→(∀ x∈l,Pf d x)→Pf (d+1) ⟨8,op,⟨0,0,[]⟩,r0,r0,[],l⟩
theorem pf_seeded:Seeded Pf where
 lit:=.lit
 cell:=.cell
 span:=.span
 un:=.un
 bin:=.bin
 call:=.call
theorem Pf.okN:∀ {d:Nat} {n:Nd},Pf d n→okN d n
 |_,_,.lit d v h=>okN_seeded.lit d v h
 |_,_,.cell d r h=>okN_seeded.cell d r h
 |_,_,.span d r x y h h1 h2=>okN_seeded.span d r x y h h1 h2
 |_,_,.un d k x hk hx=>okN_seeded.un d k x hk (Pf.okN hx)
 |_,_,.bin d op x y ho hx hy=>okN_seeded.bin d op x y ho (Pf.okN hx) (Pf.okN hy)
 |_,_,.call d op l ho hl hf hx=>okN_seeded.call d op l ho hl hf fun x hm=>Pf.okN (hx x hm)
theorem Pf.up:∀ {d:Nat} {n:Nd},Pf d n→Pf (d+1) n
 |_,_,.lit d v h=>.lit _ v h
 |_,_,.cell d r h=>.cell _ r h
 |_,_,.span d r x y h h1 h2=>.span _ r x y h h1 h2
 |_,_,.un d k x hk hx=>.un _ k x hk (Pf.up hx)
 |_,_,.bin d op x y ho hx hy=>.bin _ op x y ho (Pf.up hx) (Pf.up hy)
 |_,_,.call d op l ho hl hf hx=>.call _ op l ho hl hf fun x hm=>Pf.up (hx x hm)
mutual
def wt:Nd→Nat
 |⟨k,_,_,_,_,_,l⟩=>(if k=1 then 1 else 2)+wts l
def wts:List Nd→Nat
 |[]=>0
 |x::l=>wt x+wts l
end
mutual
def sz:Nd→Nat
 |⟨_,_,_,_,_,_,l⟩=>1+szs l
def szs:List Nd→Nat
 |[]=>0
 |x::l=>sz x+szs l
end
theorem wt_eq (n:Nd):wt n=(if n.k=1 then 1 else 2)+wts n.l:=by cases n;rfl
theorem sz_eq (n:Nd):sz n=1+szs n.l:=by cases n;rfl
theorem wt_pos (n:Nd):1≤wt n:=by rw [wt_eq];split<;>omega
theorem sz_pos (n:Nd):1≤sz n:=by rw [sz_eq];omega
theorem mem_le {x:Nd}:∀ {l:List Nd},x∈l→wt x≤wts l∧sz x≤szs l
 |[],h=>by cases h
 |y::l,h=>by
  simp only [wts,szs]
  rcases List.mem_cons.1 h with rfl|h
  · omega
  · have:=mem_le h
    omega
theorem set_le {x':Nd}:∀ {l:List Nd} {i:Nat} {x:Nd},l[i]?=some x→wts (l.set i x')+wt x=wts l+wt x'∧szs (l.set i x')+sz x=szs l+sz x'
 |[],i,x,h=>by simp at h
 |y::l,0,x,h=>by
  simp at h;subst h
  simp only [List.set_cons_zero,wts,szs];omega
 |y::l,i+1,x,h=>by
  have:=set_le (x':=x') (l:=l) (i:=i) (x:=x) (by simpa using h)
  simp only [List.set_cons_succ,wts,szs];omega
mutual
theorem wt_sz:∀ n:Nd,wt n≤2*sz n
 |⟨k,_,_,_,_,_,l⟩=>by
  have:=wts_szs l
  simp only [wt,sz]
  split<;>omega
theorem wts_szs:∀ l:List Nd,wts l≤2*szs l
 |[]=>by simp [wts]
 |x::l=>by
  have:=wt_sz x
  have:=wts_szs l
  simp only [wts,szs];omega
end
structure StP (d:Nat) (n m:Nd):Prop where
 pf:Pf d m
 wt:wt m<wt n
 sz:sz m≤sz n
theorem StP.lit {d:Nat} {n:Nd} {v:V} (hk:n.k≠1) (h:Rt v):StP (d+1) n (litN v):=⟨.lit d v h,by
 rw [wt_eq n,if_neg hk]
 show 1+0<_
 omega,by
 have:=sz_pos n
 show 1+0≤_
 omega⟩
theorem StP.kid {d:Nat} {n x:Nd} (hx:x∈n.l) (h:Pf d x):StP (d+1) n x:=by
 have:=mem_le hx
 refine ⟨h.up,?_,?_⟩
 · rw [wt_eq n];split<;>omega
 · rw [sz_eq n];omega
theorem StP.at {d:Nat} {n x x':Nd} {i:Nat} (h:Pf (d+1) n) (hi:n.l[i]?=some x) (hx:StP d x x'):StP (d+1) n ⟨n.k,n.op,n.v,n.a,n.b,n.nm,n.l.set i x'⟩:=by
 have hs:=set_le (x':=x') hi
 have hw:=hx.wt
 have hz:=hx.sz
 refine ⟨?_,?_,?_⟩
 · cases h with
   |lit _ v hv=>simp at hi
   |cell _ r hr=>simp at hi
   |span _ r x y hr h1 h2=>simp at hi
   |un _ k y hk hy=>
    match i,hi with
    |0,_=>exact .un _ _ _ hk hx.pf
    |i+1,hi=>simp at hi
   |bin _ op y z ho hy hz=>
    match i,hi with
    |0,_=>exact .bin _ _ _ _ ho hx.pf hz
    |1,_=>exact .bin _ _ _ _ ho hy hx.pf
    |i+2,hi=>simp at hi
   |call _ op l ho hl hf hy=>
    refine .call _ _ _ ho (by rw [List.length_set];exact hl) (by rw [List.length_set];exact hf) fun y hm=>?_
    rcases List.mem_or_eq_of_mem_set hm with h|rfl
    · exact hy y h
    · exact hx.pf
 · rw [wt_eq n,wt_eq];dsimp only;split<;>omega
 · rw [sz_eq n,sz_eq];dsimp only;omega
theorem Pf.kid {d:Nat} {n x:Nd} (h:Pf (d+1) n) (hx:x∈n.l):Pf d x:=by
 cases h with
 |lit _ v hv=>simp at hx
 |cell _ r hr=>simp at hx
 |span _ r x y hr h1 h2=>simp at hx
 |un _ k y hk hy=>rw [List.mem_singleton.1 hx];exact hy
 |bin _ op y z ho hy hz=>
  simp only [List.mem_cons,List.not_mem_nil,or_false] at hx
  rcases hx with rfl|rfl
  · exact hy
  · exact hz
 |call _ op l ho hl hf hy=>exact hy x hx
theorem Pf.len {d:Nat} {n:Nd} (h:Pf d n):n.l.length≤3:=by
 cases h<;>simp<;>assumption
theorem Pf.rt {d:Nat} {n:Nd} (h:Pf d n) (hk:n.k=1):Rt n.v∧n=litN n.v:=by
 cases h with
 |lit _ v hv=>exact ⟨hv,rfl⟩
 |un _ k y hk' hy=>exact absurd hk (by dsimp only;omega)
 |_=>exact absurd hk (by dsimp only;omega)
variable {rec:Nd→List V→Option Nd} {p:List V} {d:Nat} {n:Nd}
end Go.Sp
end
section
namespace Go.Sp
open Go.Stp Go.ValP
variable {rec:Nd→List V→Option Nd} {p:List V} {d:Nat} {n:Nd}
theorem gel_at {l:List Nd} {i:Nat} (h:i<l.length):l[i]?=some (gel l (i:Int)):=by
 have:=gel_some (l:=l) (i:=(i:Int)) oM
 rwa [Int.toNat_natCast] at this
theorem done_eq (x:Nd):step_done x=some (decide (x.k=1)):=rfl
theorem StP.drop {d:Nat} {op:Int} {x:Nd} {l:List Nd} (ho:op=3∨op=4) (hl:1≤l.length∧l.length≤2) (h:∀ y∈x::l,Pf d y) {v:V} {a b:Rf} {nm:List UInt8}:StP (d+1) ⟨8,op,v,a,b,nm,x::l⟩ ⟨8,op,⟨0,0,[]⟩,r0,r0,[],l⟩:=by
 have:=wt_pos x
 have:=sz_pos x
 refine ⟨.call d op l oM oM ?_ fun y hy=>h y (List.mem_cons_of_mem _ hy),?_,?_⟩
 · have h1:fitB 3 1=true∧fitB 3 2=true∧fitB 4 1=true∧fitB 4 2=true:=by decide +kernel
   rcases ho with rfl|rfl<;>rcases (show l.length=1∨l.length=2 by omega) with e|e<;>rw [e]<;>simp [h1]
 · simp only [Go.Sp.wt,wts]
   simp
   omega
 · simp only [Go.Sp.sz,szs]
   omega
theorem fit_two:∀ op:Int,op=1∨op=2→∀ k:Nat,k≤3→fitB op k=true→2≤k:=by
 intro op ho k hk hf
 have:fitB 1 0=false∧fitB 1 1=false∧fitB 2 0=false∧fitB 2 1=false:=by decide +kernel
 rcases (show k=0∨k=1∨2≤k by omega) with rfl|rfl|h
 · rcases ho with rfl|rfl<;>simp [this] at hf
 · rcases ho with rfl|rfl<;>simp [this] at hf
 · exact h
end Go.Sp
end
section
namespace Go.Sp
open Go.Stp Go.ValP
variable {rec:Rn→Nd→(List (C × Bool))→Option ((Gt) × List (C × Bool))} {R:Rn} {n:Nd} {m:List (C × Bool)} {v t:V} {c:C} {d:Nat}
noncomputable def valF (R:Rn) (n:Nd):V:=match eval_run_eval KK R n [] with
 |some r=>r.1.v
 |none=>default
theorem val_ok (hp:okP R.p) {k:Nat} (hd:d≤1000) (hk:d≤k) (h:okN d n) (a:List (C × Bool)):Ok (eval_run_eval k R n a) fun r=>r.1.v=valF R n∧Rt r.1.v:=by
 obtain ⟨x,y,e1,e2,e3⟩:=eval_V hp d k KK n a [] hk (by unfold KK;omega) h
 refine ⟨x,e1,?_,e3.2⟩
 unfold valF
 rw [e2,e3.1]
theorem valF_of (hp:okP R.p) {k:Nat} (hd:d≤1000) (hk:d≤k) (h:okN d n) {a:List (C × Bool)} (hv:Ok (eval_run_eval k R n a) fun r=>r.1.v=v):valF R n=v:=by
 obtain ⟨x,e1,e2,_⟩:=val_ok hp hd hk h a
 obtain ⟨y,f1,f2⟩:=hv
 rw [e1] at f1
 cases f1
 exact e2.symm.trans f2
theorem ev_litN {k:Nat} (hk:1≤k) (v:V) (m:List (C × Bool)):eval_run_eval k R (litN v) m=some (⟨v,R.c⟩,m):=by
 obtain ⟨k,rfl⟩:∃ k',k=k'+1:=⟨k-1,oM⟩
 exact ev_lit k R v m
theorem val_litN (v:V):valF R (litN v)=v:=by
 unfold valF
 rw [ev_litN (by unfold KK;omega)]
theorem lz2a (h0:0<n.l.length) (ho:n.op=2) (hr:rec R (gel n.l 0) m=some (⟨v,c⟩,m)) (hv:v.k≠4):eval_run_lazy rec R n m=some (⟨v,c⟩,m):=by
 simp [eval_run_lazy,bindv,chk,obind,ho,hr,hv,h0]
theorem lz2b (h0:2≤n.l.length) (ho:n.op=2) (hr:rec R (gel n.l 0) m=some (⟨v,c⟩,m)) (hv:v.k=4):eval_run_lazy rec R n m=obind (rec R (gel n.l 1) m) fun y=>some (y.1,y.2):=by
 have h1:0<n.l.length:=oM
 have h2:¬ (n.l.length:Int)≤1:=oM
 simp [eval_run_lazy,bindv,chk,obind,ho,hr,hv,h1]
 exact fun h=>absurd h h2
theorem truth_4 {x:Nd} (hr:rec R x m=some (⟨v,c⟩,m)) (hv:v.k=4):eval_run_truth rec R x m=some (⟨v,c⟩,m):=by
 simp [eval_run_truth,bindv,obind,hr,hv]
theorem truth_t {x:Nd} (hr:rec R x m=some (⟨v,c⟩,m)) (hv:v.k≠4) (ht:value_ToBool v=some t):eval_run_truth rec R x m=some (⟨t,R.c⟩,m):=by
 simp [eval_run_truth,bindv,obind,hr,hv,ht,eval_run_made]
theorem lz1a (h0:0<n.l.length) (ho:n.op=1) (hr:eval_run_truth rec R (gel n.l 0) m=some (⟨v,c⟩,m)) (hv:v.k=4):eval_run_lazy rec R n m=some (⟨v,c⟩,m):=by
 simp [eval_run_lazy,bindv,chk,obind,ho,hr,hv,h0]
theorem lz1b (h0:2≤n.l.length) (ho:n.op=1) (hr:eval_run_truth rec R (gel n.l 0) m=some (⟨v,c⟩,m)) (hv:v.k≠4) (h1:v.n=1):eval_run_lazy rec R n m=obind (rec R (gel n.l 1) m) fun y=>some (y.1,y.2):=by
 have h3:0<n.l.length:=oM
 have h2:¬ (n.l.length:Int)≤1:=oM
 simp [eval_run_lazy,bindv,chk,obind,ho,hr,hv,h1,h3]
 exact fun h=>absurd h h2
theorem lz1c (h0:n.l.length=3) (ho:n.op=1) (hr:eval_run_truth rec R (gel n.l 0) m=some (⟨v,c⟩,m)) (hv:v.k≠4) (h1:v.n≠1):eval_run_lazy rec R n m=obind (rec R (gel n.l 2) m) fun y=>some (y.1,y.2):=by
 simp [eval_run_lazy,bindv,chk,obind,ho,hr,hv,h1,h0]
theorem lz1d (h0:0<n.l.length) (h3:n.l.length≠3) (ho:n.op=1) (hr:eval_run_truth rec R (gel n.l 0) m=some (⟨v,c⟩,m)) (hv:v.k≠4) (h1:v.n≠1) (hb:value_Bool false=some t):eval_run_lazy rec R n m=some (⟨t,R.c⟩,m):=by
 have h4:¬ (n.l.length:Int)=3:=oM
 simp [eval_run_lazy,bindv,chk,obind,ho,hr,hv,h1,h0,h4,hb,eval_run_made]
theorem lz5a (h0:0<n.l.length) (ho:n.op=5) (hr:rec R (gel n.l 0) m=some (⟨v,c⟩,m)) (hv:v.k=4):eval_run_lazy rec R n m=some (⟨v,c⟩,m):=by
 simp [eval_run_lazy,bindv,chk,obind,ho,hr,hv,h0]
theorem lz5b (h0:0<n.l.length) (ho:n.op=5) (hr:rec R (gel n.l 0) m=some (⟨v,c⟩,m)) (hv:v.k≠4) (ht:value_ToNum v=some t) (h4:t.k=4):eval_run_lazy rec R n m=some (⟨t,R.c⟩,m):=by
 simp [eval_run_lazy,bindv,chk,obind,ho,hr,hv,h0,ht,h4,eval_run_made]
theorem lz5c (h0:0<n.l.length) (ho:n.op=5) (hr:rec R (gel n.l 0) m=some (⟨v,c⟩,m)) (hv:v.k≠4) (ht:value_ToNum v=some t) (h4:t.k≠4) {i:Int} (hi:i=IntKind.wrap .i64 (Int.tdiv t.n 1000000)) (h1:1≤i∧i<(n.l.length:Int)):eval_run_lazy rec R n m=obind (rec R (gel n.l i) m) fun y=>some (y.1,y.2):=by
 have h2:0≤i:=oM
 simp [eval_run_lazy,bindv,chk,obind,ho,hr,hv,h0,ht,h4,← hi,h1.1,h1.2,h2]
theorem lz5d (h0:0<n.l.length) (ho:n.op=5) (hr:rec R (gel n.l 0) m=some (⟨v,c⟩,m)) (hv:v.k≠4) (ht:value_ToNum v=some t) (h4:t.k≠4) {i:Int} (hi:i=IntKind.wrap .i64 (Int.tdiv t.n 1000000)) (h1:¬ (1≤i∧i<(n.l.length:Int))) {u:V} (hu:value_Fail 2=some u):eval_run_lazy rec R n m=some (⟨u,R.c⟩,m):=by
 simp [eval_run_lazy,bindv,chk,obind,ho,hr,hv,h0,ht,h4,← hi,hu,eval_run_made]
 exact fun a b=>absurd ⟨a,b⟩ h1
end Go.Sp
end
section
namespace Go.Sp
open Go.Stp Go.ValP
variable {rec:Rn→Nd→(List (C × Bool))→Option ((Gt) × List (C × Bool))} {R:Rn} {n n':Nd} {m:List (C × Bool)} {v t:V} {c:C} {d:Nat} {W:Nd→V}
def trV (v:V):V:=if v.k=4 then v else (value_ToBool v).getD default
def andor (op:Int):List V→V
 |[]=>⟨3,if op=3 then 1 else 0,[]⟩
 |v::vs=>if (trV v).k=4∨((trV v).n=1↔op=4) then trV v else andor op vs
theorem truth_tr {x:Nd} (h:Ok (rec R x m) fun r=>r.1.v=v∧Rt r.1.v):Ok (eval_run_truth rec R x m) fun r=>r.1.v=trV v:=by
 unfold eval_run_truth
 refine Ok.ob h fun y _ hy=>Ok.bv fun z e=>Ok.it (fun c=>Ok.sm ?_) fun c=>?_
 · rw [e,dT,hy.1] at c
   rw [trV,if_pos c]
   exact hy.1
 · rw [e,dF,hy.1] at c
   obtain ⟨t,ht,_⟩:=value_ToBool_tot hy.2
   rw [ht]
   refine Ok.os fun q eq=>Ok.ob (R:=fun g=>g=⟨q,R.c⟩) ⟨_,rfl,rfl⟩ fun g _ hg=>Ok.sm ?_
   rw [trV,if_neg c,← hy.1,ht,hg,eq]
   rfl
theorem lz34 (hop:n.op=3∨n.op=4) (hl:n.l.length≤9) (h:∀ x∈n.l,∀ a,Ok (rec R x a) fun r=>r.1.v=W x∧Rt r.1.v):Ok (eval_run_lazy rec R n m) fun r=>r.1.v=andor n.op (n.l.map W):=by
 unfold eval_run_lazy
 refine Ok.bv fun J4 _=>Ok.bv fun z2 e2=>Ok.it (fun c=>?_) fun _=>Ok.bv fun J eJ=>?_
 · rw [e2,dT] at c
   omega
 have hJ:Ok (J true) fun r=>r.1.v=andor n.op (n.l.map W):=by
  rw [eJ]
  refine Ok.it (fun _=>Ok.bv fun J51 e51=>Ok.bv fun B eB=>?_) fun g=>by cases g
  refine Ok.lp (fun s=>∃ i:Nat,s.1=(i:Int)∧i≤n.l.length∧andor n.op ((n.l.map W).drop i)=andor n.op (n.l.map W)) (fun s=>n.l.length-s.1.toNat) ⟨0,rfl,Nat.zero_le _,rfl⟩ (by simp;omega) ?_
  rintro s ⟨i,h1,h2,h3⟩ next hn
  rw [eB]
  refine Ok.bv fun z ez=>Ok.it (fun c=>?_) fun c=>?_
  · rw [ez,h1,dT] at c
    refine Ok.ck oM (Ok.bv fun x ex=>?_)
    rw [h1] at ex
    have hx:x∈n.l:=by rw [ex];exact gel_mem oM
    have hd:(n.l.map W).drop i=W x::(n.l.map W).drop (i+1):=by
     rw [List.drop_eq_getElem_cons (by rw [List.length_map];omega)]
     have:=gel_at (l:=n.l) (i:=i) oM
     rw [←ex,List.getElem?_eq_getElem oM] at this
     rw [List.getElem_map,Option.some.inj this]
    rw [hd] at h3
    simp only [andor] at h3
    refine Ok.ob (truth_tr (h x hx s.2.1)) fun y _ hy=>Ok.bv fun z1 f1=>Ok.bv fun z2 f2=>Ok.bv fun z3 f3=>Ok.bv fun z4 f4=>Ok.bv fun z5 f5=>Ok.it (fun c5=>Ok.sm ?_) fun c5=>Ok.bv fun z9 e9=>?_
    · rw [f5,f4,f3,f2,f1,hy,Bool.or_eq_true,dT,beq_iff_eq,decide_eq_decide] at c5
      rw [if_pos c5] at h3
      dsimp only
      rw [hy,h3]
    · rw [f5,f4,f3,f2,f1,hy,Bool.or_eq_false_iff,dF,beq_eq_false_iff_ne,Ne,decide_eq_decide] at c5
      rw [if_neg (fun g=>g.elim c5.1 c5.2)] at h3
      rw [h1] at e9
      have e:=succ64 e9 oM
      exact hn _ ⟨i+1,e,oM,h3⟩ (by simp only [e,h1];omega)
  · rw [ez,h1,dF] at c
    rw [List.drop_of_length_le (by rw [List.length_map];omega)] at h3
    rw [e51]
    refine Ok.bv fun z ez=>?_
    rw [value_Bool_eq]
    refine Ok.os fun b eb=>Ok.ob (R:=fun g=>g=⟨b,R.c⟩) ⟨_,rfl,rfl⟩ fun g _ hg=>Ok.sm ?_
    rw [←h3,hg,eb,ez]
    simp [andor]
 clear eJ
 refine Ok.bv fun z e=>Ok.it (fun c=>by rw [c];exact hJ) fun c=>Ok.bv fun z' e'=>?_
 rw [e,dF] at c
 have:z'=true:=by rw [e',dT];omega
 rw [this]
 exact hJ
theorem val_lazy (hp:okP R.p) (hd:d≤900) (hN:okN (d+1) n) (hk:n.k=8) (hop:n.op≤5) (h:Ok (eval_run_lazy (eval_run_eval d) R n []) fun r=>r.1.v=v):valF R n=v:=by
 refine valF_of hp (d:=d+1) (k:=d+1) oM (Nat.le_refl _) hN (a:=[]) ?_
 obtain ⟨k,op,v0,a,b,nm,l⟩:=n
 dsimp only at hk hop
 subst hk
 rw [ev_fun d R op v0 a b nm l [] hop]
 exact Ok.ob h fun y _ hy=>Ok.sm hy
theorem val_at (hp:okP R.p) (hd:d≤900) (hn:okN (d+1) n) (hn':okN (d+1) n') (hk':n'.k=n.k) (he:n'.op=n.op) (hv':n'.v=n.v) (hle:n'.l.length=n.l.length) (h5:5≤n.k)
 (h:∀ i:Int,0≤i∧i<(n.l.length:Int)→okN d (gel n.l i)∧okN d (gel n'.l i)∧valF R (gel n'.l i)=valF R (gel n.l i))
 (ha:n.k=8→6≤n.op→∀ i:Int,0≤i∧i<(n.l.length:Int)→Ok2 (eval_Area R.p (gel n.l i)) (eval_Area R.p (gel n'.l i)) fun y y'=>y.2.2=y'.2.2∧(y.2.2=true→y'=y∧Box y.1 y.2.1)):valF R n'=valF R n:=by
 obtain ⟨x,y,e1,e2,e3⟩:=eval_VB (m1:=[]) (m2:=[]) (rec:=eval_run_eval d) (rec':=eval_run_eval d) hp hn hk' he hv' hle (fun g=>oM) (fun _ i hi a b=>by
  obtain ⟨h1,h2,h3⟩:=h i hi
  obtain ⟨x,f1,f2,f3⟩:=val_ok hp (show d≤1000 by omega) (Nat.le_refl d) h1 a
  obtain ⟨y,g1,g2,g3⟩:=val_ok hp (show d≤1000 by omega) (Nat.le_refl d) h2 b
  exact ⟨x,y,f1,g1,by rw [f2,g2,h3],f3⟩) ha
 have h1:valF R n=x.1.v:=valF_of hp (k:=d+1) oM (Nat.le_refl _) hn (a:=[]) ⟨x,e1,rfl⟩
 have h2:valF R n'=y.1.v:=valF_of hp (k:=d+1) oM (Nat.le_refl _) hn' (a:=[]) ⟨y,e2,rfl⟩
 rw [h1,h2,e3.1]
theorem val_of1 (hp:okP R.p) (hN:okN 2 n) (h:Ok (eval_run_eval 2 R n []) fun r=>r.1.v=v):valF R n=v:=valF_of hp oM (Nat.le_refl _) hN h
theorem val_un {k:Int} (hk:k=5∨k=6) (hp:okP R.p) {w:V} (hw:Rt w):(w.k=4→valF R ⟨k,0,⟨0,0,[]⟩,r0,r0,[],[litN w]⟩=w)∧(w.k≠4→funcs_Unary k w=some v→valF R ⟨k,0,⟨0,0,[]⟩,r0,r0,[],[litN w]⟩=v):=by
 have hN:okN 2 ⟨k,0,⟨0,0,[]⟩,r0,r0,[],[litN w]⟩:=okUnary hk (okLit hw)
 have hl:=ev_litN (R:=R) (k:=1) (Nat.le_refl _) w []
 refine ⟨fun h4=>val_of1 hp hN ⟨(⟨w,R.c⟩,[]),?_,rfl⟩,fun h4 hu=>val_of1 hp hN ⟨(⟨v,R.c⟩,[]),?_,rfl⟩⟩
 · rw [ev_step]
   rcases hk with rfl|rfl<;>simp [eval_run_eval_B,bindv,chk,obind,gel,hl,h4]
 · rw [ev_step]
   rcases hk with rfl|rfl<;>simp [eval_run_eval_B,bindv,chk,obind,gel,hl,h4,hu,eval_run_made]
theorem val_bin {op:Int} (ho:1≤op∧op≤11) (hp:okP R.p) {w1 w2:V} (h1:Rt w1) (h2:Rt w2):(w1.k=4→valF R ⟨7,op,⟨0,0,[]⟩,r0,r0,[],[litN w1,litN w2]⟩=w1)∧(w1.k≠4→w2.k=4→valF R ⟨7,op,⟨0,0,[]⟩,r0,r0,[],[litN w1,litN w2]⟩=w2)∧
 (w1.k≠4→w2.k≠4→funcs_Binary op w1 w2=some v→valF R ⟨7,op,⟨0,0,[]⟩,r0,r0,[],[litN w1,litN w2]⟩=v):=by
 have hN:okN 2 ⟨7,op,⟨0,0,[]⟩,r0,r0,[],[litN w1,litN w2]⟩:=okBinary ho (okLit h1) (okLit h2)
 have l1:=ev_litN (R:=R) (k:=1) (Nat.le_refl _) w1 []
 have l2:=ev_litN (R:=R) (k:=1) (Nat.le_refl _) w2 []
 refine ⟨fun h4=>val_of1 hp hN ⟨(⟨w1,R.c⟩,[]),?_,rfl⟩,fun h4 h5=>val_of1 hp hN ⟨(⟨w2,R.c⟩,[]),?_,rfl⟩,fun h4 h5 hu=>val_of1 hp hN ⟨(⟨v,R.c⟩,[]),?_,rfl⟩⟩
 · rw [ev_step]
   simp [eval_run_eval_B,bindv,chk,obind,gel,l1,h4]
 · rw [ev_step]
   simp [eval_run_eval_B,bindv,chk,obind,gel,l1,l2,h4,h5]
 · rw [ev_step]
   simp [eval_run_eval_B,bindv,chk,obind,gel,l1,l2,h4,h5,hu,eval_run_made]
end Go.Sp
end
section
namespace Go.Sp
open Go.Stp Go.ValP
def R0 (p:List V):Rn:=⟨p,⟨0,0,0⟩⟩
def Nar (x:Nd):Prop:=x.k=1∨5≤x.k
structure StE (p:List V) (d:Nat) (n m:Nd):Prop where
 st:StP d n m
 va:valF (R0 p) m=valF (R0 p) n
 nar:5≤n.k→Nar m
variable {rec:Nd→List V→Option Nd} {p:List V} {d:Nat} {n:Nd} {v t:V}
theorem order_same {a b:C} (h:a.s=b.s):∃ x y,addr_Order a b=some (x,y,true):=by
 simp [addr_Order,bindv,h]
theorem area_yes {x:Nd} (h:Pf d x) (hk:x.k=2∨x.k=3):∃ a b,eval_Area p x=some (a,b,true):=by
 cases h with
 |cell _ r hr=>exact ⟨r.c,r.c,by simp [eval_Area,bindv]⟩
 |span _ r x y hr hx hy=>
  obtain ⟨a,b,e⟩:=order_same (a:=r.c) (b:=⟨r.c.s,x,y⟩) rfl
  exact ⟨a,b,by simp [eval_Area,bindv,obind,e]⟩
 |un _ k x hk' hx=>dsimp only at hk;omega
 |_=>dsimp only at hk;omega
theorem area_nar {x:Nd} (h:Nar x):∃ a b,eval_Area p x=some (a,b,false):=by
 have h2:x.k≠2:=by unfold Nar at h;omega
 have h3:x.k≠3:=by unfold Nar at h;omega
 have h4:x.k≠4:=by unfold Nar at h;omega
 exact ⟨_,_,by simp [eval_Area,bindv,h2,h3,h4];exact ⟨rfl,rfl⟩⟩
theorem Pf.nar {x:Nd} (h:Pf d x) (hk:¬ (x.k=2∨x.k=3)):Nar x:=by
 unfold Nar
 cases h with
 |un _ k x hk' hx=>right;dsimp only;omega
 |_=>dsimp only at hk ⊢;omega
theorem nar_of {x:Nd} (h:Pf d x) {y:C × C × Bool} (e:eval_Area p x=some y) (hy:y.2.2=false):Nar x:=h.nar fun hk=>by
 obtain ⟨a,b,g⟩:=area_yes (p:=p) h hk
 rw [e] at g
 cases g
 cases hy
theorem gel_set {l:List Nd} {i:Nat} {x:Nd} {j:Int} (hj:0≤j∧j<(l.length:Int)):gel (l.set i x) j=if i=j.toNat then x else gel l j:=by
 have e1:=gel_some (l:=l.set i x) (i:=j) (by rw [List.length_set];exact hj)
 have e2:=gel_some (l:=l) (i:=j) hj
 rw [List.getElem?_set] at e1
 split at e1
 · rw [if_pos oM] at e1
   rw [if_pos (by assumption)]
   exact (Option.some.inj e1).symm
 · rw [if_neg (by assumption)]
   rw [e2] at e1
   exact (Option.some.inj e1).symm
theorem StE.lit (hk:n.k≠1) (hv:Rt v) (he:valF (R0 p) n=v):StE p (d+1) n (litN v):=⟨StP.lit hk hv,by rw [val_litN,he],fun _=>.inl rfl⟩
theorem lit_okE (hk:n.k≠1) (hv:Rt v) (he:valF (R0 p) n=v):Ok (obind (tree_Value v) fun y=>some y) (StE p (d+1) n):=Ok.ob (R:=fun m=>m=litN v) ⟨_,value_eq,rfl⟩ fun m _ hm=>Ok.sm (by rw [hm];exact StE.lit hk hv he)
theorem at_okE (hp:okP p) (hd:d≤6) (h:Pf (d+1) n) (h5:5≤n.k) {i:Nat} {x:Nd} (hi:n.l[i]?=some x) (hx1:x.k≠1) (hs:n.k=8→6≤n.op→Nar x) (hr:Ok (rec x p) (StE p d x)):Ok (step_at rec n (i:Int) p) (StE p (d+1) n):=by
 have hl:=h.len
 have hlt:i<n.l.length:=(List.getElem?_eq_some_iff.1 hi).1
 unfold step_at
 refine Ok.ck (by dsimp only [List.length_nil];omega) (Ok.bv fun l el=>Ok.ck (by rw [el,List.nil_append];omega) (Ok.bv fun y ey=>?_))
 have hg:gel n.l (i:Int)=x:=by
  have:=gel_at hlt
  rw [hi] at this
  exact (Option.some.inj this).symm
 have e:y=x:=by rw [ey,el,List.nil_append,hg]
 rw [e]
 refine Ok.ob hr fun x' _ hx=>Ok.ck (by rw [el,List.nil_append];omega) (Ok.bv fun _ _=>Ok.bv fun l' el'=>Ok.sm ?_)
 rw [el',el,List.nil_append,Int.toNat_natCast]
 have hst:=StP.at h hi hx.st
 refine ⟨hst,?_,fun _=>.inr h5⟩
 refine val_at (R:=R0 p) hp oM h.okN hst.pf.okN rfl rfl rfl (List.length_set ..) h5 (fun j hj=>?_) fun hk8 hop j hj=>?_
 · dsimp only
   rw [gel_set hj]
   have hjk:=(h.kid (gel_mem hj)).okN
   split
   · rename_i g
     have:gel n.l j=x:=by rw [←hg,g];congr 1;omega
     rw [this] at hjk ⊢
     exact ⟨hjk,hx.st.pf.okN,hx.va⟩
   · exact ⟨hjk,hjk,rfl⟩
 · dsimp only
   rw [gel_set hj]
   split
   · rename_i g
     have:gel n.l j=x:=by rw [←hg,g];congr 1;omega
     rw [this]
     have hn:=hs hk8 hop
     obtain ⟨a,b,e1⟩:=area_nar (p:=p) hn
     obtain ⟨a',b',e2⟩:=area_nar (p:=p) (hx.nar (by unfold Nar at hn;omega))
     exact ⟨_,_,e1,e2,rfl,fun g=>by cases g⟩
   · exact (Ok2.same (area_ok (p:=p) (h.kid (gel_mem hj)).okN.ndB)).mono fun a b hab=>⟨by rw [hab.1],fun g=>⟨hab.1.symm,hab.2 g⟩⟩
theorem eval_val (hp:okP p) (hd:d≤7) (h:okN d n):∃ r:Rs,eval_Eval n ⟨0,0,0⟩ p=some r∧r.v=valF (R0 p) n∧Rt r.v:=by
 obtain ⟨r,hr,h1,he⟩:=Eval_tot (self:=⟨0,0,0⟩) hp hd h
 refine ⟨_,he,?_,hr.rt⟩
 unfold valF R0
 rw [h1]
theorem leads_okE (hp:okP p) (hd:d≤6) (h:Pf (d+1) n) (hk:n.k≠1) {x:Nd} (hx:x∈n.l) (hv:valF (R0 p) n=valF (R0 p) x):Ok (step_leads x p) (StE p (d+1) n):=by
 have hx':=h.kid hx
 obtain ⟨y,ey,_⟩:=area_ok (p:=p) hx'.okN.ndB
 unfold step_leads
 rw [ey]
 refine Ok.os fun y' e'=>Ok.it (fun _=>?_) fun c=>Ok.sm ⟨StP.kid hx hx',hv.symm,fun _=>nar_of hx' ey (by rw [←e'];exact c)⟩
 obtain ⟨r,he,hr,hrt⟩:=eval_val hp (show d≤7 by omega) hx'.okN
 rw [he]
 refine Ok.os fun q eq=>Ok.ob (R:=fun m=>m=litN q.v) ⟨_,value_eq,rfl⟩ fun m _ hm=>Ok.sm ?_
 rw [hm,eq]
 exact StE.lit hk hrt (by rw [hv,hr])
theorem op_err (hp:okP p) (hd:d≤6) (h:Pf (d+1) n) (hk:n.k=5∨n.k=6∨n.k=7) {i:Nat} (hi:i<n.l.length) (hb:∀ j:Nat,j<i→(gel n.l (j:Int)).k=1∧(gel n.l (j:Int)).v.k≠4) (h1:(gel n.l (i:Int)).k=1) (h4:(gel n.l (i:Int)).v.k=4):valF (R0 p) n=(gel n.l (i:Int)).v:=by
 have hN:=h.okN
 cases h with
 |un _ k x hk' hx=>
  obtain rfl:i=0:=by simp at hi;exact hi
  have e:gel [x] ((0:Nat):Int)=x:=by simp [gel]
  dsimp only at h1 h4 ⊢
  rw [e] at h1 h4 ⊢
  obtain ⟨w,rfl⟩:∃ w,x=litN w:=⟨_,(hx.rt h1).2⟩
  exact (val_un (v:=default) hk' hp (hx.rt h1).1).1 h4
 |bin _ op x y ho hx hy=>
  have ex:gel [x,y] ((0:Nat):Int)=x:=by simp [gel]
  have ey:gel [x,y] ((1:Nat):Int)=y:=by simp [gel]
  dsimp only at h1 h4 hb ⊢
  rcases (show i=0∨i=1 by simp at hi;omega) with rfl|rfl
  · rw [ex] at h1 h4 ⊢
    obtain ⟨w,rfl⟩:∃ w,x=litN w:=⟨_,(hx.rt h1).2⟩
    have hd1:1≤d:=by cases d with|zero=>cases hx|succ d=>omega
    refine valF_of (d:=d+1) (k:=d+1) hp oM (Nat.le_refl _) hN (a:=[]) ⟨(⟨w,(R0 p).c⟩,[]),?_,rfl⟩
    have hl:=ev_litN (R:=R0 p) hd1 w []
    have h4':w.k=4:=h4
    rw [ev_step]
    simp [eval_run_eval_B,bindv,chk,obind,gel,hl,h4']
  · rw [ey] at h1 h4 ⊢
    have hb0:=hb 0 oM
    rw [ex] at hb0
    obtain ⟨w,rfl⟩:∃ w,x=litN w:=⟨_,(hx.rt hb0.1).2⟩
    obtain ⟨u,rfl⟩:∃ w,y=litN w:=⟨_,(hy.rt h1).2⟩
    exact (val_bin (v:=default) ho hp (hx.rt hb0.1).1 (hy.rt h1).1).2.1 hb0.2 h4
 |_=>dsimp only at hk;omega
theorem operator_okE (hp:okP p) (hd:d≤6) (h:Pf (d+1) n) (hk:n.k=5∨n.k=6∨n.k=7) (hr:∀ x∈n.l,x.k≠1→Ok (rec x p) (StE p d x)):Ok (step_operator rec n p) (StE p (d+1) n):=by
 have hl:=h.len
 unfold step_operator
 refine Ok.bv fun J eJ=>?_
 have hJ:∀ t,(∀ j:Nat,j<n.l.length→(gel n.l (j:Int)).k=1∧(gel n.l (j:Int)).v.k≠4)→Ok (J t) (StE p (d+1) n):=by
  intro t hdn
  rw [eJ]
  cases h with
  |un _ k x hk' hx=>
   have ex:gel [x] ((0:Nat):Int)=x:=by simp [gel]
   have h0:=hdn 0 (by simp)
   dsimp only at h0
   rw [ex] at h0
   obtain ⟨w,rfl⟩:∃ w,x=litN w:=⟨_,(hx.rt h0.1).2⟩
   have hw:Rt w:=(hx.rt h0.1).1
   refine Ok.bv fun z ez=>Ok.it (fun c=>?_) fun c=>?_
   · rw [ez] at c
     simp at c
     omega
   · refine Ok.ck (by simp) (Ok.bv fun y ey=>?_)
     have ey':y=litN w:=ey.trans ex
     rw [ey']
     refine Ok.ob (funcs_Unary_tot hw) fun v ev hv'=>lit_okE (by dsimp only;omega) hv' ((val_un hk' hp hw).2 h0.2 ev)
  |bin _ op x y ho hx hy=>
   have ex:gel [x,y] ((0:Nat):Int)=x:=by simp [gel]
   have ey:gel [x,y] ((1:Nat):Int)=y:=by simp [gel]
   have h0:=hdn 0 (by simp)
   have h1:=hdn 1 (by simp)
   dsimp only at h0 h1
   rw [ex] at h0
   rw [ey] at h1
   obtain ⟨w,rfl⟩:∃ w,x=litN w:=⟨_,(hx.rt h0.1).2⟩
   obtain ⟨u,rfl⟩:∃ w,y=litN w:=⟨_,(hy.rt h1.1).2⟩
   have hw:Rt w:=(hx.rt h0.1).1
   have hu:Rt u:=(hy.rt h1.1).1
   refine Ok.bv fun z ez=>Ok.it (fun c=>?_) fun c=>?_
   · refine Ok.ck (by simp) (Ok.bv fun x1 e1=>Ok.ck (by simp) (Ok.bv fun x2 e2=>?_))
     have e1':x1=litN w:=e1.trans ex
     have e2':x2=litN u:=e2.trans ey
     rw [e1',e2']
     exact Ok.ob (funcs_Binary_tot ho hw hu h0.2 h1.2) fun v ev hv'=>lit_okE (by dsimp only;omega) hv' ((val_bin ho hp hw hu).2.2 h0.2 h1.2 ev)
   · rw [ez] at c
     simp at c
  |_=>dsimp only at hk;omega
 clear eJ
 refine Ok.bv fun B eB=>Ok.lp (fun s=>∃ i:Nat,s.1=(i:Int)∧i≤n.l.length∧∀ j:Nat,j<i→(gel n.l (j:Int)).k=1∧(gel n.l (j:Int)).v.k≠4) (fun s=>n.l.length-s.1.toNat) ⟨0,rfl,oM,fun j hj=>oM⟩ (by simp;omega) ?_
 rintro s ⟨i,q1,q2,q3⟩ next hn
 rw [eB]
 refine Ok.bv fun z1 e1=>Ok.it (fun c=>?_) fun c=>?_
 · rw [e1,q1,dT] at c
   refine Ok.ck oM (Ok.bv fun x ex=>?_)
   rw [q1] at ex
   have hx:x∈n.l:=by rw [ex];exact gel_mem oM
   rw [done_eq]
   refine Ok.os fun b eb=>Ok.bv fun z2 e2=>Ok.it (fun c2=>?_) fun c2=>Ok.bv fun z3 e3=>Ok.it (fun c3=>?_) fun c3=>Ok.bv fun z4 e4=>?_
   · rw [e2,eb] at c2
     rw [q1]
     have hx1:x.k≠1:=by simpa using c2
     exact Ok.ob (at_okE hp hd h oM (by rw [gel_at oM,ex]) hx1 (fun g=>oM) (hr x hx hx1)) fun m _ hm=>Ok.sm hm
   · rw [e2,eb] at c2
     have hx1:x.k=1:=by simpa using c2
     rw [e3,dT] at c3
     have hq:=h.kid hx
     rw [(hq.rt hx1).2]
     refine Ok.sm (StE.lit oM (hq.rt hx1).1 ?_)
     rw [ex] at hx1 c3 ⊢
     exact op_err hp hd h hk oM q3 hx1 c3
   · rw [e2,eb] at c2
     rw [e3] at c3
     rw [q1] at e4
     have e4':=succ64 e4 oM
     refine hn _ ⟨i+1,e4',oM,fun j hj=>?_⟩ (by dsimp only;rw [e4',q1];omega)
     rcases Nat.lt_or_ge j i with g|g
     · exact q3 j g
     · obtain rfl:j=i:=oM
       rw [←ex]
       exact ⟨by simpa using c2,by simpa using c3⟩
 · rw [e1,q1,dF] at c
   exact hJ _ fun j hj=>q3 j oM
theorem strict_okE (hp:okP p) (hd:d≤6) (h:Pf (d+1) n) (hk:n.k=8) (hr:∀ x∈n.l,x.k≠1→Ok (rec x p) (StE p d x)):Ok (step_strict rec n p) (StE p (d+1) n):=by
 have hl:=h.len
 unfold step_strict
 refine Ok.bv fun J eJ=>?_
 have hJ:∀ t,Ok (J t) (StE p (d+1) n):=by
  intro t
  rw [eJ]
  obtain ⟨r,he,hr,hrt⟩:=eval_val hp (show d+1≤7 by omega) h.okN
  rw [he]
  refine Ok.os fun q eq=>lit_okE oM ?_ ?_
  · rw [eq];exact hrt
  · rw [eq];exact hr.symm
 clear eJ
 refine Ok.bv fun B eB=>Ok.lp (fun s=>∃ i:Nat,s.1=(i:Int)∧i≤n.l.length) (fun s=>n.l.length-s.1.toNat) ⟨0,rfl,oM⟩ (by simp;omega) ?_
 rintro s ⟨i,q1,q2⟩ next hn
 rw [eB]
 refine Ok.bv fun z1 e1=>Ok.it (fun c=>?_) fun c=>hJ _
 rw [e1,q1,dT] at c
 refine Ok.ck oM (Ok.bv fun x ex=>?_)
 rw [q1] at ex
 have hx:x∈n.l:=by rw [ex];exact gel_mem oM
 obtain ⟨y,ey,_⟩:=area_ok (p:=p) (h.kid hx).okN.ndB
 rw [ey,done_eq]
 refine Ok.os fun y' ey'=>Ok.os fun b eb=>Ok.bv fun z2 e2=>Ok.bv fun z3 e3=>Ok.bv fun z4 e4=>Ok.it (fun c2=>?_) fun c2=>Ok.bv fun z5 e5=>?_
 · rw [e4,e2,e3,eb,ey'] at c2
   rw [q1]
   simp at c2
   exact Ok.ob (at_okE hp hd h oM (by rw [gel_at oM,ex]) c2.1 (fun _ _=>nar_of (h.kid hx) ey c2.2) (hr x hx c2.1)) fun m _ hm=>Ok.sm hm
 · rw [q1] at e5
   have e5':=succ64 e5 oM
   exact hn _ ⟨i+1,e5',oM⟩ (by dsimp only;rw [e5',q1];omega)
end Go.Sp
end
section
namespace Go.Sp
open Go.Stp Go.ValP
theorem pow_pos4 (d:Nat):1≤4 ^ d:=Nat.one_le_pow _ _ oM
theorem szs_le {d:Nat}:∀ {l:List Nd},(∀ x∈l,sz x≤4 ^ d)→szs l≤l.length*4 ^ d
 |[],_=>by simp [szs]
 |x::l,h=>by
  have h1:=h x (by simp)
  have h2:=szs_le fun y hy=>h y (List.mem_cons_of_mem _ hy)
  simp only [szs,List.length_cons,Nat.succ_mul]
  omega
theorem sz_le:∀ (d:Nat) (n:Nd),Pf d n→sz n≤4 ^ d
 |0,n,h=>by cases h
 |d+1,n,h=>by
  have h1:=szs_le fun x hx=>sz_le d x (h.kid hx)
  have h2:=Nat.mul_le_mul_right (4 ^ d) h.len
  have:=pow_pos4 d
  rw [sz_eq,Nat.pow_succ]
  omega
theorem size_ok:∀ (d:Nat) (n:Nd),d≤7→Pf d n→∀ k:Nat,d≤k→tree_Size k n=some (sz n:Int)
 |0,n,_,h=>by cases h
 |d+1,n,hd,h=>by
  intro k hk
  obtain ⟨k,rfl⟩:∃ k',k=k'+1:=⟨k-1,oM⟩
  have hl:=h.len
  have hb:=sz_le _ n h
  have hb2:4 ^ (d+1)≤4 ^ 7:=Nat.pow_le_pow_right oM hd
  have h47:(4:Nat) ^ 7=16384:=by decide
  have key:Ok (tree_Size_B (tree_Size k) n) fun r=>r=(sz n:Int):=by
   unfold tree_Size_B
   refine Ok.bv fun J eJ=>Ok.bv fun B eB=>Ok.lp (fun s=>∃ i:Nat,s.2=(i:Int)∧i≤n.l.length∧s.1+(szs (n.l.drop i):Int)=(sz n:Int)∧0≤s.1) (fun s=>n.l.length-s.2.toNat) ⟨0,rfl,Nat.zero_le _,by rw [sz_eq];simp,oM⟩ (by simp;omega) ?_
   rintro s ⟨i,q1,q2,q3,q4⟩ next hn
   rw [eB]
   refine Ok.bv fun z4 e4=>Ok.it (fun c=>?_) fun c=>?_
   · rw [e4,q1,dT] at c
     refine Ok.ck oM (Ok.bv fun x ex=>?_)
     rw [q1] at ex
     have hx:x∈n.l:=by rw [ex];exact gel_mem oM
     rw [size_ok d x oM (h.kid hx) k oM]
     have hcut:n.l.drop i=x::n.l.drop (i+1):=by
      rw [List.drop_eq_getElem_cons oM]
      have:=gel_at (l:=n.l) (i:=i) oM
      rw [←ex,List.getElem?_eq_getElem oM] at this
      rw [Option.some.inj this]
     rw [hcut] at q3
     simp only [szs] at q3
     refine Ok.os fun y ey=>Ok.bv fun z5 e5=>Ok.bv fun z6 e6=>?_
     have e5':=(wI64 e5).2 oM
     rw [q1] at e6
     have e6':=succ64 e6 oM
     exact hn _ ⟨i+1,e6',oM,by dsimp only;omega,by dsimp only;omega⟩ (by dsimp only;rw [e6',q1];omega)
   · rw [e4,q1,dF] at c
     rw [eJ]
     refine Ok.sm ?_
     rw [List.drop_of_length_le oM] at q3
     simpa [szs] using q3
  obtain ⟨v,hv,rfl⟩:=key
  exact hv
theorem same_ok:∀ (d:Nat) (n m:Nd),Pf d n→∀ k:Nat,d≤k→Ok (tree_Same k n m) fun b=>b=true↔n=m
 |0,n,m,h=>by cases h
 |d+1,n,m,h=>by
  intro k hk
  obtain ⟨k,rfl⟩:∃ k',k=k'+1:=⟨k-1,oM⟩
  have hl:=h.len
  show Ok (tree_Same_B (tree_Same k) n m) fun b=>b=true↔n=m
  unfold tree_Same_B
  refine Ok.bv fun z1 e1=>Ok.bv fun z2 e2=>Ok.bv fun z3 e3=>Ok.bv fun z4 e4=>Ok.bv fun z5 e5=>Ok.bv fun z6 e6=>Ok.bv fun z7 e7=>Ok.bv fun z8 e8=>Ok.bv fun z9 e9=>Ok.bv fun y1 f1=>Ok.bv fun y2 f2=>Ok.bv fun y3 f3=>Ok.bv fun y4 f4=>Ok.it (fun c=>Ok.sm ?_) fun c=>?_
  · refine ⟨fun h=>(by cases h),fun g=>?_⟩
    subst g
    rw [f4,f3,f2,f1,e9,e8,e7,e6,e5,e4,e3,e2,e1] at c
    simp at c
  · rw [f4,f3,f2,f1,e9,e8,e7,e6,e5,e4,e3,e2,e1] at c
    simp only [Bool.or_eq_false_iff,Bool.not_eq_false',bA,dT] at c
    refine Ok.bv fun J eJ=>Ok.bv fun B eB=>?_
    have hlen:n.l.length=m.l.length:=oM
    refine Ok.lp (fun s=>∃ i:Nat,s=(i:Int)∧i≤n.l.length∧∀ j:Nat,j<i→gel n.l (j:Int)=gel m.l (j:Int)) (fun s=>n.l.length-s.toNat) ⟨0,rfl,Nat.zero_le _,fun j hj=>oM⟩ (by simp;omega) ?_
    rintro s ⟨i,q1,q2,q3⟩ next hn
    rw [eB]
    refine Ok.bv fun z e=>Ok.it (fun c2=>?_) fun c2=>?_
    · rw [e,q1,dT] at c2
      refine Ok.ck oM (Ok.bv fun x ex=>Ok.ck oM (Ok.bv fun x' ex'=>?_))
      rw [q1] at ex ex'
      refine Ok.ob (same_ok d x x' (h.kid (by rw [ex];exact gel_mem oM)) k oM) fun b _ hb=>Ok.bv fun z' e'=>Ok.it (fun c3=>Ok.sm ?_) fun c3=>Ok.bv fun z6 e6=>?_
      · refine ⟨fun h=>(by cases h),fun g=>?_⟩
        subst g
        rw [e'] at c3
        have:=hb.2 (by rw [ex,ex'])
        rw [this] at c3
        cases c3
      · rw [e'] at c3
        have hxx:=hb.1 (by simpa using c3)
        rw [q1] at e6
        have e6':=succ64 e6 oM
        refine hn _ ⟨i+1,e6',oM,fun j hj=>?_⟩ (by rw [e6',q1];omega)
        rcases Nat.lt_or_ge j i with g|g
        · exact q3 j g
        · obtain rfl:j=i:=oM
          rw [←ex,← ex',hxx]
    · rw [e,q1,dF] at c2
      rw [eJ]
      refine Ok.sm ⟨fun _=>?_,fun _=>rfl⟩
      have hll:n.l=m.l:=by
       apply List.ext_getElem?
       intro j
       rcases Nat.lt_or_ge j n.l.length with g|g
       · rw [gel_at g,gel_at oM,q3 j oM]
       · rw [List.getElem?_eq_none oM,List.getElem?_eq_none oM]
      obtain ⟨nk,no,⟨nv1,nv2,nv3⟩,⟨⟨a1,a2,a3⟩,a4,a5⟩,⟨⟨b1,b2,b3⟩,b4,b5⟩,nn,nl⟩:=n
      obtain ⟨mk,mo,⟨mv1,mv2,mv3⟩,⟨⟨c1,c2,c3⟩,c4,c5⟩,⟨⟨d1,d2,d3⟩,d4,d5⟩,mn,ml⟩:=m
      dsimp only at c hll
      obtain ⟨⟨⟨⟨⟨⟨g1,g2⟩,g3⟩,g4⟩,g5⟩,g6⟩,_⟩:=c
      simp [g1,g2,g3,g4,g5,g6,hll]
end Go.Sp
end
section
namespace Go.Sp
open Go.Stp Go.ValP
variable {rec:Nd→List V→Option Nd} {p:List V} {d:Nat} {n:Nd} {v t:V}
theorem trV_eq (h:value_ToBool v=some t):trV v=t:=by
 unfold trV
 split
 · rename_i hk
   unfold value_ToBool at h
   simp [bindv,obind,hk] at h
   exact h
 · rw [h];rfl
theorem ToBool_3 (h:value_ToBool v=some t) (h4:t.k≠4) (hr:Rt t):t.k=3:=by
 have hk:v.k≠4:=fun hk=>by
  have:=trV_eq h
  rw [trV,if_pos hk] at this
  rw [←this] at h4
  exact h4 hk
 unfold value_ToBool at h
 simp only [bindv,value_Bool_eq,value_Fail,obind] at h
 by_cases h3:v.k=3
 · simp [h3] at h
   rw [←h]
   exact h3
 · simp [h3,hk] at h
   split at h
   · cases h;rfl
   · split at h
     · cases h;rfl
     · split at h
       · cases h;rfl
       · cases h;exact absurd rfl h4
structure Fst (p:List V) (d:Nat) (n:Nd) (v:V):Prop where
 pf:Pf (d+1) n
 k:n.k=8
 rt:Rt v
 x0:gel n.l 0=litN v
 len:0<n.l.length
theorem Fst.ev {p:List V} {d:Nat} {n:Nd} {v:V} (h:Fst p d n v):eval_run_eval d (R0 p) (gel n.l 0) []=some (⟨v,(R0 p).c⟩,[]):=by
 have hd:1≤d:=by
  have:=h.pf.kid (gel_mem (l:=n.l) (i:=0) ⟨oM,by have:=h.len;omega⟩)
  cases d with
  |zero=>cases this
  |succ d=>omega
 rw [h.x0]
 exact ev_litN hd v []
theorem Fst.one {p:List V} {d:Nat} {n:Nd} {v:V} {r:Gt × List (C × Bool)} (h:Fst p d n v) (hp:okP p) (hd:d≤6) (hop:n.op≤5) (e:eval_run_lazy (eval_run_eval d) (R0 p) n []=some r):valF (R0 p) n=r.1.v:=
 val_lazy (R:=R0 p) hp oM h.pf.okN h.k hop ⟨r,e,rfl⟩
theorem Fst.to {p:List V} {d:Nat} {n:Nd} {v:V} {i:Int} (h:Fst p d n v) (hp:okP p) (hd:d≤6) (hop:n.op≤5) (hi:0≤i∧i<(n.l.length:Int)) {m:List (C × Bool)} (e:eval_run_lazy (eval_run_eval d) (R0 p) n []=obind (eval_run_eval d (R0 p) (gel n.l i) m) fun y=>some (y.1,y.2)):valF (R0 p) n=valF (R0 p) (gel n.l i):=by
 refine val_lazy (R:=R0 p) hp oM h.pf.okN h.k hop ?_
 rw [e]
 exact Ok.ob (val_ok (R:=R0 p) hp (show d≤1000 by omega) (Nat.le_refl d) (h.pf.kid (gel_mem hi)).okN m) fun y _ hy=>Ok.sm hy.1
theorem taken_okE (hp:okP p) (hd:d≤6) (h:Fst p d n v) (hop:n.op=1∨n.op=5) (h4:v.k≠4):Ok (step_taken n v p) (StE p (d+1) n):=by
 have hk:=h.k
 have hl:=h.pf.len
 have h0:=h.len
 unfold step_taken
 refine Ok.bv fun z1 e1=>Ok.it (fun c=>?_) fun c=>?_
 · rw [e1,dT] at c
   refine Ok.ob (value_ToNum_rt h.rt) fun t et ht=>Ok.bv fun z2 e2=>Ok.it (fun c2=>lit_okE oM ht.1 ?_) fun c2=>?_
   · rw [e2,dT] at c2
     exact h.one hp hd oM (lz5b h0 c h.ev h4 et c2)
   rw [e2,dF] at c2
   refine Ok.bv fun z3 e3=>Ok.bv fun z4 e4=>Ok.bv fun z5 e5=>Ok.bv fun z6 e6=>Ok.it (fun c3=>?_) fun c3=>?_
   · rw [e6,e4,e5,bA,dT,dT] at c3
     refine Ok.ck oM (Ok.bv fun x ex=>Ok.ob (leads_okE hp hd h.pf oM (by rw [ex];exact gel_mem oM) ?_) fun m _ hm=>Ok.sm hm)
     rw [ex]
     exact h.to hp hd oM oM (lz5c h0 c h.ev h4 et c2 e3 c3)
   · refine Ok.ob (value_Fail_tot oM) fun u eu hu=>lit_okE oM hu.1<|h.one hp hd oM (lz5d h0 c h.ev h4 et c2 e3 (fun g=>?_) eu)
     rw [e6,e4,e5,decide_eq_true g.1,decide_eq_true g.2] at c3
     cases c3
 · have ho:n.op=1:=by
    rw [e1,dF] at c
    omega
   have hlen:2≤n.l.length:=by
    have hp:=h.pf
    cases hp with
    |call _ op l ho' hl' hf hx=>exact fit_two op (.inl ho) _ hl' hf
    |un _ k x hk' hx=>dsimp only at hk;omega
    |_=>dsimp only at hk;omega
   refine Ok.ob (value_ToBool_tot h.rt) fun t et ht=>?_
   have htr:=truth_t (R:=R0 p) (x:=gel n.l 0) h.ev h4 et
   refine Ok.bv fun z2 e2=>Ok.it (fun c2=>lit_okE oM ht ?_) fun c2=>?_
   · rw [e2,dT] at c2
     exact h.one hp hd oM (lz1a h0 ho htr c2)
   rw [e2,dF] at c2
   refine Ok.bv fun z3 e3=>Ok.it (fun c3=>?_) fun c3=>?_
   · rw [e3,dT] at c3
     refine Ok.ck oM (Ok.bv fun x ex=>Ok.ob (leads_okE hp hd h.pf oM (by rw [ex];exact gel_mem oM) ?_) fun m _ hm=>Ok.sm hm)
     rw [ex]
     exact h.to hp hd oM oM (lz1b hlen ho htr c2 c3)
   rw [e3,dF] at c3
   refine Ok.bv fun z4 e4=>Ok.it (fun c4=>?_) fun c4=>?_
   · rw [e4,dT] at c4
     refine Ok.ck oM (Ok.bv fun x ex=>Ok.ob (leads_okE hp hd h.pf oM (by rw [ex];exact gel_mem oM) ?_) fun m _ hm=>Ok.sm hm)
     rw [ex]
     exact h.to hp hd oM oM (lz1c oM ho htr c2 c3)
   · rw [e4,dF] at c4
     exact Ok.ob value_Bool_tot fun u eu hu=>lit_okE oM hu (h.one hp hd oM (lz1d h0 oM ho htr c2 c3 eu))
theorem andor_val (hp:okP p) (hd:d≤6) (h:Pf (d+1) n) (hk:n.k=8) (hop:n.op=3∨n.op=4):valF (R0 p) n=andor n.op (n.l.map (valF (R0 p))):=by
 refine val_lazy (R:=R0 p) hp oM h.okN hk oM (lz34 hop (by have:=h.len;omega) fun x hx a=>?_)
 exact val_ok (R:=R0 p) hp (show d≤1000 by omega) (Nat.le_refl d) (h.kid hx).okN a
theorem lazy_okE (hp:okP p) (hd:d≤6) (h:Pf (d+1) n) (hk:n.k=8) (hop:n.op≤5) (hr:∀ x∈n.l,x.k≠1→Ok (rec x p) (StE p d x)):Ok (step_lazy rec n p) (StE p (d+1) n):=by
 have hl:=h.len
 have hN:=h.okN
 have hlen:1≤n.l.length∧1≤n.op∧(n.op=2→2≤n.l.length):=by
  rcases hN.2 with ⟨g,_⟩|g|g|g|⟨g,_⟩|⟨g,_⟩|⟨_,g1,_,g2,g3,_⟩
  all_goals first|(exfalso;omega)|skip
  exact ⟨g2 hop,g1.1,fun e=>g3 (.inr e)⟩
 unfold step_lazy
 refine Ok.ck oM (Ok.bv fun x ex=>?_)
 have hx:x∈n.l:=by rw [ex];exact gel_mem oM
 have hi:n.l[0]?=some x:=by rw [ex];exact gel_at oM
 have hxp:=h.kid hx
 rw [done_eq]
 refine Ok.os fun b eb=>Ok.bv fun z1 e1=>Ok.it (fun c=>?_) fun c=>?_
 · rw [e1,eb] at c
   have hx1:x.k≠1:=by simpa using c
   exact Ok.ob (at_okE (i:=0) hp hd h oM hi hx1 (fun _ g=>oM) (hr x hx hx1)) fun m _ hm=>Ok.sm hm
 · have hx1:x.k=1:=by
    rw [e1,eb] at c
    simpa using c
   have hrt:=hxp.rt hx1
   obtain ⟨w,rfl⟩:∃ w,x=litN w:=⟨_,hrt.2⟩
   have hf:Fst p d n w:=⟨h,hk,hrt.1,ex.symm,oM⟩
   have hret:valF (R0 p) n=w→Ok (some (litN w)) (StE p (d+1) n):=fun e=>Ok.sm (StE.lit oM hrt.1 e)
   refine Ok.bv fun z2 e2=>Ok.it (fun c2=>?_) fun c2=>?_
   · rw [e2,dT] at c2
     have:=hlen.2.2 c2
     refine Ok.bv fun z3 e3=>Ok.it (fun c3=>?_) fun c3=>hret ?_
     · rw [e3,dT] at c3
       refine Ok.ck oM (Ok.bv fun y ey=>Ok.ob (leads_okE hp hd h oM (by rw [ey];exact gel_mem oM) ?_) fun m _ hm=>Ok.sm hm)
       rw [ey]
       exact hf.to hp hd hop oM (lz2b this c2 hf.ev c3)
     · rw [e3,dF] at c3
       exact hf.one hp hd hop (lz2a hf.len c2 hf.ev c3)
   · rw [e2,dF] at c2
     refine Ok.bv fun J eJ=>?_
     have hJ:∀ s,(s=true→n.op=1∨n.op=5)→(s=false→n.op=3∨n.op=4)→Ok (J s) (StE p (d+1) n):=by
      intro s h1 h2
      rw [eJ]
      refine Ok.it (fun hs=>Ok.bv fun z4 e4=>Ok.it (fun c4=>hret ?_) fun c4=>?_) fun hs=>?_
      · rw [e4,dT] at c4
        rcases h1 hs with ho|ho
        · exact hf.one hp hd hop (lz1a hf.len ho (truth_4 hf.ev c4) c4)
        · exact hf.one hp hd hop (lz5a hf.len ho hf.ev c4)
      · rw [e4,dF] at c4
        exact Ok.ob (taken_okE hp hd hf (h1 hs) c4) fun m _ hm=>Ok.sm hm
      · have ho:=h2 hs
        have hv:=andor_val hp hd h hk ho
        refine Ok.ob (value_ToBool_tot hrt.1) fun t et ht=>?_
        have htr:trV (valF (R0 p) (litN w))=t:=by rw [val_litN];exact trV_eq et
        obtain ⟨l,hcons⟩:∃ l,n.l=litN w::l:=by
         cases hll:n.l with
         |nil=>rw [hll] at hi;cases hi
         |cons a l=>rw [hll] at hi;exact ⟨l,by rw [Option.some.inj hi]⟩
        rw [hcons,List.map_cons] at hv
        simp only [andor] at hv
        rw [htr] at hv
        refine Ok.bv fun _ f1=>Ok.bv fun _ f2=>Ok.bv fun _ f3=>Ok.bv fun _ f4=>Ok.bv fun z5 e5=>Ok.bv fun z6 e6=>Ok.bv fun z7 e7=>Ok.it (fun c5=>lit_okE oM ht ?_) fun c5=>?_
        · rw [e7,e6,e5,f4,f3,f2,f1,Bool.or_eq_true,Bool.or_eq_true,dT,dT,beq_iff_eq,decide_eq_decide] at c5
          split at hv
          · exact hv
          · rename_i hns
            have hl1:n.l.length=1:=by
             rcases c5 with g|g
             · exact absurd g hns
             · omega
            have hln:l=[]:=by
             rw [hcons] at hl1
             simpa using hl1
            rw [hln] at hv
            simp only [List.map_nil,andor] at hv
            have h4:t.k≠4:=fun g=>hns (.inl g)
            have h3:=ToBool_3 et h4 ht
            have hiff:¬ (t.n=1↔n.op=4):=fun g=>hns (.inr g)
            rw [hv]
            unfold Rt at ht
            obtain ⟨tk,tn,ts⟩:=t
            dsimp only at h3 hiff ht ⊢
            rcases ht with g|g|g|g|g
            · omega
            · omega
            · omega
            · obtain ⟨_,g1,g2⟩:=g
              rw [h3,g2]
              rcases ho with ho|ho
              · rw [if_pos ho]
                have:tn=1:=oM
                rw [this]
              · rw [if_neg oM]
                have:tn=0:=oM
                rw [this]
            · omega
        · rw [e7,Bool.or_eq_false_iff,e6,dF,e5,f4,f3,f2,f1,Bool.or_eq_false_iff,dF,beq_eq_false_iff_ne,Ne,decide_eq_decide] at c5
          rw [if_neg (fun g=>g.elim c5.1.1 c5.1.2)] at hv
          refine Ok.ck oM (Ok.bv fun l' el=>Ok.sm ?_)
          have hcut:l'=l:=by
           rw [el]
           unfold cutL
           rw [List.take_of_length_le (by simp),hcons]
           rfl
          have hk1:n.l.length≠1:=oM
          have hall:∀ y∈litN w::l,Pf d y:=fun y hy=>h.kid (by rw [hcons];exact hy)
          have hst:StP (d+1) n ⟨n.k,n.op,n.v,n.a,n.b,n.nm,l'⟩:=by
           cases h with
           |call _ op l0 ho' hl' hf' hy=>
            dsimp only at hcons hk1 hl ho ⊢
            subst hcons
            rw [hcut]
            simp only [List.length_cons] at hk1 hl
            exact StP.drop ho ⟨oM,oM⟩ hall
           |un _ k x hk' hx=>dsimp only at hk;omega
           |_=>dsimp only at hk;omega
          refine ⟨hst,?_,fun _=>.inr (by dsimp only;omega)⟩
          rw [andor_val hp hd hst.pf hk ho,hv,hcut]
     clear eJ
     refine Ok.bv fun z4 e4=>Ok.it (fun c4=>hJ _ (fun _=>?_) fun g=>by rw [g] at c4;cases c4) fun c4=>Ok.bv fun z5 e5=>hJ _ (fun g=>?_) fun g=>?_
     · rw [e4,dT] at c4;exact .inr c4
     · rw [e5,dT] at g;exact .inl g
     · rw [e4,dF] at c4
       rw [e5,dF] at g
       omega
theorem One_okE (hp:okP p):∀ (d k:Nat) (n:Nd),d≤k→d≤7→Pf d n→n.k≠1→Ok (step_One k n p) (StE p d n)
 |0,_,_,_,_,h,_=>by cases h
 |d+1,0,_,hk,_,_,_=>absurd hk oM
 |d+1,k+1,n,hk,hd,h,h1=>by
  have hr:∀ x∈n.l,x.k≠1→Ok (step_One k x p) (StE p d x):=fun x hx hx1=>One_okE hp d k x oM oM (h.kid hx) hx1
  show Ok (step_One_B (step_One k) n p) (StE p (d+1) n)
  unfold step_One_B
  refine Ok.bv fun z1 e1=>Ok.it (fun c=>?_) fun _=>Ok.bv fun J eJ=>?_
  · rw [e1,dT] at c
    exact absurd c h1
  have hJ:∀ s,(s=false→5≤n.k)→Ok (J s) (StE p (d+1) n):=by
   intro s hs
   rw [eJ]
   refine Ok.it (fun _=>?_) fun g=>Ok.bv fun J2 eJ2=>?_
   · obtain ⟨r,he,hr,hrt⟩:=eval_val hp (show d+1≤7 by omega) h.okN
     rw [he]
     refine Ok.os fun q eq=>lit_okE h1 ?_ ?_
     · rw [eq];exact hrt
     · rw [eq];exact hr.symm
   · have hJ2:∀ s,(s=true→n.k=5∨n.k=6∨n.k=7)→(s=false→n.k=8)→Ok (J2 s) (StE p (d+1) n):=by
      intro s g1 g2
      rw [eJ2]
      refine Ok.it (fun g=>Ok.ob (operator_okE hp oM h (g1 g) hr) fun m _ hm=>Ok.sm hm) fun g=>Ok.bv fun z2 e2=>Ok.it (fun c2=>?_) fun c2=>?_
      · rw [e2,dT] at c2
        exact Ok.ob (lazy_okE hp oM h (g2 g) c2 hr) fun m _ hm=>Ok.sm hm
      · exact Ok.ob (strict_okE hp oM h (g2 g) hr) fun m _ hm=>Ok.sm hm
     clear eJ2
     have h8:n.k=5∨n.k=6∨n.k=7∨n.k=8:=by
      have:=hs g
      cases h with
      |un _ k x hk' hx=>dsimp only at hk' ⊢;omega
      |_=>dsimp only at this ⊢;omega
     refine Ok.bv fun z3 e3=>Ok.it (fun c3=>hJ2 _ (fun _=>?_) fun g=>by rw [g] at c3;cases c3) fun c3=>Ok.bv fun z4 e4=>Ok.it (fun c4=>hJ2 _ (fun _=>?_) fun g=>by rw [g] at c4;cases c4) fun c4=>Ok.bv fun z5 e5=>hJ2 _ (fun g=>?_) fun g=>?_
     · rw [e3,dT] at c3;omega
     · rw [e4,dT] at c4;omega
     · rw [e5,dT] at g;omega
     · rw [e3,dF] at c3
       rw [e4,dF] at c4
       rw [e5,dF] at g
       omega
  clear eJ
  refine Ok.bv fun z3 e3=>Ok.it (fun c3=>hJ _ fun g=>by rw [g] at c3;cases c3) fun c3=>Ok.bv fun z4 e4=>Ok.it (fun c4=>hJ _ fun g=>by rw [g] at c4;cases c4) fun c4=>Ok.bv fun z5 e5=>hJ _ fun g=>?_
  rw [e3,dF] at c3
  rw [e4,dF] at c4
  rw [e5,dF] at g
  cases h with
  |un _ k x hk' hx=>dsimp only at hk' ⊢;omega
  |_=>dsimp only at h1 c3 c4 g ⊢;omega
theorem One_lit (h:n.k=1):step_One KK n p=some n:=by
 rw [KKs]
 show step_One_B _ _ _=_
 unfold step_One_B
 simp [bindv,h]
theorem StepEnds_true (x0:List Int) (x1:List V) (hb:∀ b∈x0,0≤b∧b≤255) (hv:∀ v∈x1,-9223372036854775808≤v.n∧v.n≤9223372036854775807):reckonerlaw14_StepEnds x0 x1=some true:=by
 have key:Ok (reckonerlaw14_StepEnds x0 x1) (fun v=>v=true):=by
  unfold reckonerlaw14_StepEnds
  rw [fit14]
  refine Ok.os fun y1 e1=>Ok.bv fun z1 ez1=>Ok.it (fun h=>by rw [ez1,e1] at h;cases h) fun _=>?_
  refine Ok.bv fun z2 e2=>Ok.bv fun z3 e3=>Ok.bv fun z4 e4=>Ok.it (fun _=>Ok.sm rfl) fun c=>?_
  rw [e4,Bool.or_eq_false_iff,e2,e3,dF,dF] at c
  refine Ok.ob (formulaQ_ok pf_seeded (N:=100) oM 5 KK x0 oM (by unfold KK;omega) ⟨oM,hb⟩) fun y ey hy=>Ok.ob (place_ok (l:=x1) oM hv) fun p ep hp=>?_
  have hK:6≤KK:=by unfold KK;omega
  have hn:Pf 6 y.1:=hy.1
  have hsz:=sz_le 6 y.1 hn
  have h46:(4:Nat) ^ 6=4096:=by decide
  have hws:=wt_sz y.1
  have hS:=size_ok 6 y.1 oM hn KK hK
  refine Ok.ob (all_ok (n0:=y.1) (S:=(sz y.1:Int)) (fun i x out=>Pf 6 x∧wt x+i≤wt y.1∧valF (R0 p) x=valF (R0 p) y.1∧out.length=i+1∧out[0]?=some y.1∧out[i]?=some x) hS oM ⟨hn,oM,rfl,rfl,rfl,rfl⟩ (fun i x out h=>h.2.2.2.1) fun i x out h hk _=>?_) fun all _ hall=>?_
  · obtain ⟨g1,g2,g3,g4,g5,g6⟩:=h
    refine (One_okE hp 6 KK x hK oM g1 hk).mono fun m hm=>⟨hm.st.pf,?_,hm.va.trans g3,by rw [List.length_append,g4];rfl,?_,?_⟩
    · have:=hm.st.wt
      omega
    · rw [List.getElem?_append_left oM]
      exact g5
    · rw [List.getElem?_append_right oM,g4]
      simp
  obtain ⟨i,x,⟨g1,g2,g3,g4,g5,g6⟩,g7⟩:=hall
  have hxk:x.k=1:=by
   rcases g7 with g|g
   · exact g
   · have:=wt_pos x
     omega
  obtain ⟨w,rfl⟩:∃ w,x=litN w:=⟨_,(g1.rt hxk).2⟩
  rw [val_litN] at g3
  obtain ⟨r,he,hr,hrt⟩:=eval_val hp (show 6≤7 by omega) hn.okN
  rw [he]
  refine Ok.os fun q eq=>Ok.bv fun z5 e5=>?_
  have e5':=(wI64 e5).2 oM
  have hz5:z5=(i:Int):=by rw [e5',g4];omega
  have hlast:gel all (i:Int)=litN w:=by
   have:=gel_at (l:=all) (i:=i) oM
   rw [g6] at this
   exact (Option.some.inj this).symm
  have hfirst:gel all 0=y.1:=by
   have:=gel_at (l:=all) (i:=0) oM
   rw [g5] at this
   exact (Option.some.inj this).symm
  rw [hz5]
  refine Ok.ck oM (Ok.bv fun x ex=>?_)
  rw [hlast] at ex
  rw [hS]
  refine Ok.os fun s es=>Ok.bv fun z6 e6=>Ok.bv fun z7 e7=>Ok.bv fun z8 e8=>?_
  have e6':=(wI64 e6).2 oM
  have e7':=(wI64 e7).2 oM
  have hw1:=wt_pos (litN w)
  have h8:z8=false:=by rw [e8,dF];omega
  refine Ok.bv fun z9 e9=>Ok.bv fun u1 f1=>Ok.bv fun u2 f2=>Ok.bv fun u3 f3=>?_
  have h9:z9=false:=by rw [e9,ex];rfl
  have hu2:u2=false:=by
   rw [f2,ex,eq,hr,← g3]
   simp [litN]
  have hu3:u3=false:=by rw [f3,f1,h8,h9,hu2];rfl
  rw [hu3]
  refine Ok.ck oM (Ok.bv fun x' ex'=>?_)
  rw [hfirst] at ex'
  refine Ok.ob (R:=fun b=>b=true) ?_ fun b _ hb=>Ok.bv fun u4 f4=>Ok.bv fun u5 f5=>Ok.it (fun c5=>?_) fun _=>?_
  · rw [ex']
    exact Ok.it (fun _=>(same_ok 6 y.1 y.1 hn KK hK).mono fun b hb=>hb.2 rfl) fun g=>by cases g
  · rw [f5,f4,hb] at c5
    cases c5
  rw [ex,One_lit (n:=litN w) rfl]
  refine Ok.os fun m em=>?_
  rw [em]
  exact Ok.ob (same_ok 6 (litN w) (litN w) g1 KK hK) fun b _ hb=>Ok.sm (hb.2 rfl)
 obtain ⟨v,h,rfl⟩:=key
 exact h
end Go.Sp
end
