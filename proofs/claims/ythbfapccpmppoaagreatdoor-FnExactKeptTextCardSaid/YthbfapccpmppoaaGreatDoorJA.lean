/- Rules of the weakest precondition over frames that are functions from slots to values. No program in sight. -/
import Derived.Orders
import Derived.Laws.AppendOwn
set_option linter.all false
namespace Gv
open Go
def upd (f:Nat->Value) (d:Nat) (v:Value):Nat->Value:=fun i=>cond (Nat.beq i d) v (f i)
def aDK (f:Nat->Value):Option Tmp->Value->Nat->Value
 |some d,v=>upd f d v
 |none,_=>f
def act (n:Nat) (f:Nat->Value):Act:=⟨Array.ofFn (n:=n) (fun i=>f i.val),[]⟩
def ev (f:Nat->Value):Operand->Value
 |.tmp t=>f t
 |.const v=>v
 |.global g=>.pointer (some ⟨g,0,none⟩)
 |.func k=>.func (.func k) #[] #[]
theorem tU (n:Nat) (f:Nat->Value) (d:Option Tmp) (v:Value):(act n f).put d v=act n (aDK f d v):=by
 cases d with
 |none=>rfl
 |some d=>
  simp only [Act.put,act,aDK]
  congr 1
  apply Array.ext_getElem?
  intro i
  rw [Array.getElem?_setIfInBounds]
  simp only [Array.getElem?_ofFn,Array.size_ofFn,upd]
  by_cases h:d=i
  ·subst h;simp [Nat.beq_refl]
  ·have:Nat.beq i d=false:=by
    cases hb:Nat.beq i d
    ·rfl
    ·exact absurd (Nat.eq_of_beq_eq_true hb).symm h
   simp [h,this]
def okx (n:Nat):Operand->Bool
 |.tmp t=>Nat.blt t n
 |_=>true
theorem ev_act {n:Nat} {f:Nat->Value} {x:Operand} (h:okx n x=true):(act n f).eval x=ev f x:=by
 cases x with
 |tmp t=>
  have ht:t < n:=by simpa [okx,Nat.blt_eq] using h
  simp [Act.eval,act,ev,Array.getD,ht]
 |_=>rfl
def okg (n:Nat) (ops:Array Oper):Option (Nat × Bool)->Bool
 |none=>true
 |some (j,_)=>match (ops[j]?).bind (·.dst) with
  |some d=>Nat.blt d n
  |none=>false
def oko (n:Nat) (o:Oper):Bool:=
 (match o.op with|.select ..=>false|_=>true)&&o.op.operands.all (okx n)
theorem qG {n:Nat} {f:Nat->Value} {o:Oper} (h:oko n o=true):execOp (act n f).eval o=execOp (ev f) o:=by
 unfold oko at h
 rw [Bool.and_eq_true] at h
 refine execOp_congr o ?_ ?_
 ·intro cs b hs;rw [hs] at h;simp at h
 ·intro x hx
  have h2:=h.2
  rw [Array.all_eq_true_iff_forall_mem] at h2
  exact ev_act (h2 x hx)
abbrev lI:=Exit->(Nat->Value)->World->Prop
def lift (n:Nat) (Q:lI):Exit->Act->World->Prop:=fun e a w=>∃ f,a=act n f/\Q e f w
def okc (n:Nat):Code->Bool
 |.skip|.exit _|.ret|.label _|.goto _=>true
 |.region _ ops _=>ops.all (fun o=>oko n o&&okg n ops o.guard)
 |.seq a b=>okc n a&&okc n b
 |.cond c a b=>okx n c&&okc n a&&okc n b
 |.block _ c|.loop c=>okc n c
 |_=>false
structure W (P:Program) (n:Nat) (c:Code) (Q:lI) (f:Nat->Value) (w:World):Prop where
 go:okc n c=true->c.wp P (lift n Q) (act n f) w
def sA (K:(Nat->Value)->World->Prop) (Q:lI):lI
 |.normal,f,w=>K f w
 |e,f,w=>Q e f w
def aBK (id:Nat) (Q:lI):lI
 |.exit id',f,w=>cond (Nat.beq id' id) (Q .normal f w) (Q (.exit id') f w)
 |e,f,w=>Q e f w
section rules
variable {P:Program} {n:Nat} {Q:lI} {f:Nat->Value} {w:World}
theorem W.mono {c:Code} {Q':lI} (h:W P n c Q f w) (hq:∀ e f w,Q e f w->Q' e f w):W P n c Q' f w:=
 ⟨fun ok=>Code.wp_mono (fun e _ w ⟨f,ha,q⟩=>⟨f,ha,hq e f w q⟩) (h.go ok)⟩
theorem aH {a b:Code} (h:W P n a (sA (fun f w=>W P n b Q f w) Q) f w):W P n (.seq a b) Q f w:=by
 refine ⟨fun ok=>?_⟩
 simp only [okc,Bool.and_eq_true] at ok
 refine wp_seq (Code.wp_mono ?_ (h.go ok.1))
 rintro e a' w' ⟨f',rfl,q⟩
 cases e with
 |normal=>exact q.go ok.2
 |_=>exact ⟨f',rfl,q⟩
theorem aU (h:Q .normal f w):W P n .skip Q f w:=⟨fun _=>wp_skip ⟨f,rfl,h⟩⟩
theorem aON {id:Nat} (h:Q (.exit id) f w):W P n (.exit id) Q f w:=⟨fun _=>wp_exit ⟨f,rfl,h⟩⟩
theorem aAP (h:Q .ret f w):W P n .ret Q f w:=⟨fun _=>wp_ret ⟨f,rfl,h⟩⟩
theorem W_cond {c:Operand} {x y:Code} {b:Bool} (hc:ev f c=.bool b) (h:W P n (cond b x y) Q f w):W P n (.cond c x y) Q f w:=by
 refine ⟨fun ok=>?_⟩
 simp only [okc,Bool.and_eq_true] at ok
 refine wp_cond (t:=b) (by rw [ev_act ok.1.1,hc]) ?_
 cases b
 ·exact h.go ok.2
 ·exact h.go ok.1.2
theorem aS {c:Operand} {x y:Code} {b:Bool} (hb:b=true) (hc:ev f c=.bool b) (h:W P n x Q f w):W P n (.cond c x y) Q f w:=by subst hb;exact W_cond hc h
theorem aP {c:Operand} {x y:Code} {b:Bool} (hb:¬ b=true) (hc:ev f c=.bool b) (h:W P n y Q f w):W P n (.cond c x y) Q f w:=by
 have:b=false:=by simpa using hb
 subst this;exact W_cond hc h
theorem bJ {id:Nat} {c:Code} (h:W P n c (aBK id Q) f w):W P n (.block id c) Q f w:=by
 refine ⟨fun ok=>?_⟩
 refine wp_block (Code.wp_mono ?_ (h.go ok))
 rintro e a' w' ⟨f',rfl,q⟩
 cases e with
 |exit id'=>
  simp only [aBK] at q
  simp only [Exit.inBlock]
  by_cases hid:id'=id
  ·subst hid;simp only [Nat.beq_refl,cond_true] at q;simp only [if_true];exact ⟨f',rfl,q⟩
  ·have:Nat.beq id' id=false:=by
    cases hb:Nat.beq id' id
    ·rfl
    ·exact absurd (Nat.eq_of_beq_eq_true hb) hid
   rw [this] at q;simp only [hid,if_false];exact ⟨f',rfl,q⟩
 |_=>exact ⟨f',rfl,q⟩
theorem W_seqJ {a b:Code} (M:(Nat->Value)->World->Prop) (hM:∀ f w,M f w->W P n b Q f w) (h:W P n a (sA M Q) f w):W P n (.seq a b) Q f w:=
 aH (h.mono fun e f w q=>by cases e<;>first|exact hM f w q|exact q)
theorem W_blockJ {id:Nat} {c:Code} (M:(Nat->Value)->World->Prop) (hM:∀ f w,M f w->Q .normal f w) (h:W P n c (aBK id (sA M Q)) f w):W P n (.block id c) Q f w:=by
 refine bJ (h.mono fun e f w q=>?_)
 cases e with
 |normal=>exact hM f w q
 |exit id'=>
  simp only [aBK] at q ⊢
  cases hb:Nat.beq id' id
  ·simp only [hb,cond_false] at q ⊢;exact q
  ·simp only [hb,cond_true] at q ⊢;exact hM f w q
 |_=>exact q
def ovr:List Nat->(Nat->Value)->(Nat->Value)->Nat->Value
 |[],_,g,k=>g k
 |a::l,f,g,k=>cond (Nat.beq k a) (f k) (ovr l f g k)
theorem aLZ:∀ {ks:List Nat} {f g:Nat->Value},ks.map g=ks.map f->ovr ks f g=g
 |[],_,_,_=>rfl
 |a::l,f,g,h=>by
  rw [List.map_cons,List.map_cons,List.cons.injEq] at h
  funext k
  have ih:=congrFun (aLZ h.2) k
  unfold ovr
  cases hb:Nat.beq k a with
  |true=>rw [cond_true,Nat.eq_of_beq_eq_true hb,h.1]
  |false=>rw [cond_false,ih]
def nin (d:Nat):List Nat->Bool
 |[]=>true
 |a::l=>cond (Nat.beq a d) false (nin d l)
def isin (a:Nat):List Nat->Bool
 |[]=>false
 |b::l=>cond (Nat.beq a b) true (isin a l)
def sub (ks:List Nat):List Nat->Bool
 |[]=>true
 |a::l=>cond (isin a ks) (sub ks l) false
theorem kp_upd {ks:List Nat} {f:Nat->Value} {d:Nat} {v:Value} {vs:List Value} (h:nin d ks=true) (t:ks.map f=vs):ks.map (upd f d v)=vs:=by
 rw [←t]
 clear t
 induction ks with
 |nil=>rfl
 |cons a l ih=>
  unfold nin at h
  cases hb:Nat.beq a d with
  |true=>rw [hb] at h;cases h
  |false=>
   rw [hb,cond_false] at h
   rw [List.map_cons,List.map_cons,ih h]
   unfold upd
   rw [hb,cond_false]
theorem kp_no {ks:List Nat} {f:Nat->Value} {v:Value} {vs:List Value} (t:ks.map f=vs):ks.map (aDK f none v)=vs:=t
theorem ovr_in {f g:Nat->Value} {a:Nat}:∀ {ks:List Nat},isin a ks=true->ovr ks f g a=f a
 |[],h=>by cases h
 |b::l,h=>by
  unfold isin at h
  unfold ovr
  cases hb:Nat.beq a b with
  |true=>rfl
  |false=>rw [hb,cond_false] at h;rw [cond_false];exact ovr_in h
theorem kp_ovr {ks ls:List Nat} {f g:Nat->Value} {vs:List Value} (h:sub ls ks=true) (t:ks.map f=vs):ks.map (ovr ls f g)=vs:=by
 rw [←t]
 clear t
 induction ks with
 |nil=>rfl
 |cons a l ih=>
  unfold sub at h
  cases hb:isin a ls with
  |false=>rw [hb] at h;cases h
  |true=>
   rw [hb,cond_true] at h
   rw [List.map_cons,List.map_cons,ih h,ovr_in hb]
theorem gF {p:Prop} (h:p:=by (repeat (first|with_reducible exact rfl|refine kp_upd rfl ?_|refine kp_ovr rfl ?_|refine kp_no ?_));first|done|fail):p:=h
theorem gI {a b:Code} (ks:List Nat) (M:(Nat->Value)->World->Prop) (hM:∀ g w,M (ovr ks f g) w->W P n b Q (ovr ks f g) w) (h:W P n a (sA (fun g w=>ks.map g=ks.map f/\M g w) Q) f w):W P n (.seq a b) Q f w:=
 W_seqJ (fun g w=>ks.map g=ks.map f/\M g w) (fun g w q=>by have:=hM g w;rw [aLZ q.1] at this;exact this q.2) h
theorem aQ {id:Nat} {c:Code} (ks:List Nat) (M:(Nat->Value)->World->Prop) (hM:∀ g w,M (ovr ks f g) w->Q .normal (ovr ks f g) w) (h:W P n c (aBK id (sA (fun g w=>ks.map g=ks.map f/\M g w) Q)) f w):W P n (.block id c) Q f w:=
 W_blockJ (fun g w=>ks.map g=ks.map f/\M g w) (fun g w q=>by have:=hM g w;rw [aLZ q.1] at this;exact this q.2) h
theorem aD {K:(Nat->Value)->World->Prop} (h:K f w):sA K Q .normal f w:=h
theorem aEy {K:(Nat->Value)->World->Prop} {id:Nat} (h:Q (.exit id) f w):sA K Q (.exit id) f w:=h
theorem aEz {K:(Nat->Value)->World->Prop} (h:Q .ret f w):sA K Q .ret f w:=h
theorem eL {id:Nat} (h:Q .normal f w):aBK id Q .normal f w:=h
theorem blockQ_r {id:Nat} (h:Q .ret f w):aBK id Q .ret f w:=h
theorem aIR {id:Nat} (h:Q .normal f w):aBK id Q (.exit id) f w:=by simp only [aBK,Nat.beq_refl,cond_true];exact h
theorem blockQ_ne {id id':Nat} (hne:Nat.beq id' id=false) (h:Q (.exit id') f w):aBK id Q (.exit id') f w:=by simp only [aBK,hne,cond_false];exact h
structure WO (P:Program) (n:Nat) (ops:Array Oper) (l:List Oper) (Q:lI) (f:Nat->Value) (w:World):Prop where
 go:l.all (fun o=>oko n o&&okg n ops o.guard)=true->wpList P ops (lift n Q) l (act n f) w
theorem bK {id:Nat} {l:List Oper} (h:WO P n l.toArray l Q f w):W P n (.region id l.toArray false) Q f w:=by
 refine ⟨fun ok=>?_⟩
 refine wp_region_lit (h.go ?_)
 simpa [okc] using ok
variable {ops:Array Oper} {o:Oper} {rest:List Oper}
theorem bP (h:Q .normal f w):WO P n ops [] Q f w:=⟨fun _=>wpList_nil ⟨f,rfl,h⟩⟩
theorem aFT {w':World} {v:Value} (hg:o.guard=none) (hr:(execOp (ev f) o).run P w=.ok (.value v) w')
  (h:WO P n ops rest Q (aDK f o.dst v) w'):WO P n ops (o::rest) Q f w:=by
 refine ⟨fun ok=>?_⟩
 simp only [List.all_cons,Bool.and_eq_true] at ok
 refine wpList_plain hg fun K hK=>?_
 unfold Oper.wp
 rw [qG ok.1.1,hr,Oper.upon_value,tU]
 exact hK _ _ (h.go (by simpa using ok.2))
theorem WO_eff {w':World} (hg:o.guard=none) (hr:(execOp (ev f) o).run P w=.ok .skip w')
  (h:WO P n ops rest Q (aDK f o.dst undef) w'):WO P n ops (o::rest) Q f w:=by
 refine ⟨fun ok=>?_⟩
 simp only [List.all_cons,Bool.and_eq_true] at ok
 refine wpList_plain hg fun K hK=>?_
 unfold Oper.wp
 rw [qG ok.1.1,hr,Oper.upon_skip,tU]
 exact hK _ _ (h.go (by simpa using ok.2))
def cL (Φ:Value->World->Prop):Ending->World->Prop:=fun e w=>∃ v,e=.returned v/\Φ v w
theorem aMa {w':World} {k:FuncId} {args:Array Value} {Φ:Value->World->Prop} (hg:o.guard=none) (hr:(execOp (ev f) o).run P w=.ok (.enter k args) w')
  (hc:Calls P k args w' (cL Φ)) (h:∀ v w'',Φ v w''->WO P n ops rest Q (aDK f o.dst v) w''):WO P n ops (o::rest) Q f w:=by
 refine ⟨fun ok=>?_⟩
 simp only [List.all_cons,Bool.and_eq_true] at ok
 refine wpList_plain hg fun K hK=>?_
 unfold Oper.wp
 rw [qG ok.1.1,hr,Oper.upon_enter]
 refine hc.mono ?_
 rintro e w'' ⟨v,rfl,hv⟩
 show K _ _
 rw [tU]
 exact hK _ _ ((h v w'' hv).go (by simpa using ok.2))
theorem aCO {j:Nat} {d:Tmp} {b:Bool} (hd:(ops[j]?).bind (·.dst)=some d) (hn:d < n) (hb:f d=.bool b):
  yielded ops (act n f).tmps j=some b:=by
 unfold yielded
 rw [hd]
 simp [act,hn,hb]
theorem aMb {j:Nat} {d:Tmp} {b:Bool} (hg:o.guard=some (j,b)) (hd:(ops[j]?).bind (·.dst)=some d) (hb:f d=.bool b)
  (h:WO P n ops ({ o with guard:=none }::rest) Q f w):WO P n ops (o::rest) Q f w:=by
 refine ⟨fun ok=>?_⟩
 have ok':=ok
 simp only [List.all_cons,Bool.and_eq_true] at ok
 have hn:d < n:=by have:=ok.1.2;rw [hg] at this;simp only [okg,hd] at this;simpa [Nat.blt_eq] using this
 have h':=h.go (by
  simp only [List.all_cons,Bool.and_eq_true]
  exact ⟨⟨ok.1.1,rfl⟩,by simpa using ok.2⟩)
 unfold wpList at h' ⊢
 have e1:Region.wanted o (yielded ops (act n f).tmps)=true:=by
  simp [Region.wanted,hg,aCO hd hn hb]
 have e2:Region.wanted { o with guard:=none } (yielded ops (act n f).tmps)=true:=by simp [Region.wanted]
 rw [if_pos e2] at h'
 rw [if_pos e1]
 exact h'
theorem WO_pass {j:Nat} {d:Tmp} {b b':Bool} (hg:o.guard=some (j,b')) (hd:(ops[j]?).bind (·.dst)=some d) (hb:f d=.bool b) (hne:(b == b')=false)
  (h:WO P n ops rest Q (aDK f o.dst undef) w):WO P n ops (o::rest) Q f w:=by
 refine ⟨fun ok=>?_⟩
 simp only [List.all_cons,Bool.and_eq_true] at ok
 have hn:d < n:=by have:=ok.1.2;rw [hg] at this;simp only [okg,hd] at this;simpa [Nat.blt_eq] using this
 unfold wpList
 have e1:Region.wanted o (yielded ops (act n f).tmps)=false:=by
  simp only [Region.wanted,hg,aCO hd hn hb]
  cases b<;>cases b'<;>simp_all
 rw [if_neg (by simp [e1]),tU]
 exact h.go (by simpa using ok.2)
theorem aNK {j:Nat} {d:Tmp} {b':Bool} (hg:o.guard=some (j,b')) (hd:(ops[j]?).bind (·.dst)=some d) (hb:f d=undef)
  (h:WO P n ops rest Q (aDK f o.dst undef) w):WO P n ops (o::rest) Q f w:=by
 refine ⟨fun ok=>?_⟩
 simp only [List.all_cons,Bool.and_eq_true] at ok
 have hn:d < n:=by have:=ok.1.2;rw [hg] at this;simp only [okg,hd] at this;simpa [Nat.blt_eq] using this
 unfold wpList
 have e0:yielded ops (act n f).tmps j=none:=by
  unfold yielded;rw [hd];simp [act,hn,hb,undef]
 have e1:Region.wanted o (yielded ops (act n f).tmps)=false:=by
  simp [Region.wanted,hg,e0]
 rw [if_neg (by simp [e1]),tU]
 exact h.go (by simpa using ok.2)
end rules
section enter
variable {P:Program} {w:World}
def initF (args:List Value):Nat->Value:=fun i=>args.getD i undef
def retQ (P:Program) (fn:Func) (Φ:Value->World->Prop):lI:=fun e f w=>
 match e with
 |.ret|.normal=>∃ v,(results fn (act fn.ntmps f).tmps).run P w=.ok v w/\Φ v w
 |_=>False
theorem aN {k:FuncId} {fn:Func} {c:Code} {args:List Value} {Φ:Value->World->Prop}
  (hf:P.funcs[k]?=some fn) (hb:fn.body=some c) (hok:okc fn.ntmps c=true) (hl:args.length<=fn.ntmps)
  (h:W P fn.ntmps c (retQ P fn Φ) (initF args) w):Calls P k args.toArray w (cL Φ):=by
 refine calls_of_wp hf hb ?_
 have e:(⟨args.toArray++Array.replicate (fn.ntmps - args.toArray.size) undef,[]⟩:Act)=act fn.ntmps (initF args):=by
  unfold act
  congr 1
  apply Array.ext
  ·simp;omega
  ·intro i h1 h2
   simp only [Array.getElem_append,Array.getElem_ofFn,initF]
   by_cases hi:i < args.length
   ·simp [hi,List.getD_eq_getElem?_getD]
   ·simp [hi,List.getD_eq_getElem?_getD]
 rw [e]
 refine Code.wp_mono ?_ (h.go hok)
 rintro e a w' ⟨f,rfl,q⟩
 cases e with
 |normal=>obtain ⟨v,hr,hv⟩:=q;exact ⟨rfl,v,hr,v,rfl,hv⟩
 |ret=>obtain ⟨v,hr,hv⟩:=q;exact ⟨rfl,v,hr,v,rfl,hv⟩
 |_=>exact q.elim
theorem xU {fn:Func} {Φ:Value->World->Prop} {t:Nat} {f:Nat->Value} (hr:fn.results=#[.tmp t]) (ht:Nat.blt t fn.ntmps=true) (h:Φ (f t) w):retQ P fn Φ .ret f w:=by
 refine ⟨f t,?_,h⟩
 rw [results_tmp hr]
 have:t < fn.ntmps:=by simpa [Nat.blt_eq] using ht
 simp [act,Array.getD,this]
theorem retQ_0 {fn:Func} {Φ:Value->World->Prop} {f:Nat->Value} (hr:fn.results=#[]) (h:Φ (.tuple #[]) w):retQ P fn Φ .ret f w:=
 ⟨.tuple #[],results_none hr _ _ _,h⟩
theorem retQ_0n {fn:Func} {Φ:Value->World->Prop} {f:Nat->Value} (hr:fn.results=#[]) (h:Φ (.tuple #[]) w):retQ P fn Φ .normal f w:=
 ⟨.tuple #[],results_none hr _ _ _,h⟩
theorem retQ_2 {fn:Func} {Φ:Value->World->Prop} {t u:Nat} {f:Nat->Value} (hr:fn.results=#[.tmp t,.tmp u]) (ht:Nat.blt t fn.ntmps=true) (hu:Nat.blt u fn.ntmps=true) (h:Φ (.tuple #[f t,f u]) w):retQ P fn Φ .ret f w:=by
 refine ⟨.tuple #[f t,f u],?_,h⟩
 rw [results_tmp2 hr]
 have h1:t < fn.ntmps:=by simpa [Nat.blt_eq] using ht
 have h2:u < fn.ntmps:=by simpa [Nat.blt_eq] using hu
 simp [act,Array.getD,h1,h2]
theorem retQ_3 {fn:Func} {Φ:Value->World->Prop} {t u x:Nat} {f:Nat->Value} (hr:fn.results=#[.tmp t,.tmp u,.tmp x]) (ht:Nat.blt t fn.ntmps=true) (hu:Nat.blt u fn.ntmps=true) (hx:Nat.blt x fn.ntmps=true) (h:Φ (.tuple #[f t,f u,f x]) w):retQ P fn Φ .ret f w:=by
 refine ⟨.tuple #[f t,f u,f x],?_,h⟩
 have h1:t < fn.ntmps:=by simpa [Nat.blt_eq] using ht
 have h2:u < fn.ntmps:=by simpa [Nat.blt_eq] using hu
 have h3:x < fn.ntmps:=by simpa [Nat.blt_eq] using hx
 simp [results,hr,act,Array.getD,h1,h2,h3]
end enter
end Gv
