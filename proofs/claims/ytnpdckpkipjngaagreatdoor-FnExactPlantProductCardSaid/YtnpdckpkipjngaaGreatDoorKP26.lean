/- The reference's product of a plant and a requirement. -/
import Derived.Test.YtnpdckpkipjngaaGreatDoorKP20
set_option linter.all false
namespace Gv
open Go
variable {p:cI} {r:cH}
def OQ (p:cI) (r:cH):List (Int × Int):=ordQ (iR p r).1
def EE (p:cI) (r:cH):List Edge:=yK p r (OQ p r) 0 (OQ p r)
def rK (p:cI) (r:cH):cH:=⟨((OQ p r).length:Int),pos (OQ p r) (p.S.I,r.I),p.S.L,EE p r⟩
def mkQ (M:List Int):Nat→List (Int × Int)→List Int
 |_,[]=>[]
 |k,q::l=>if M.any (fun x=>q.1 == x)=true then (k:Int)::mkQ M (k+1) l else mkQ M (k+1) l
def aHq:cI:=⟨⟨0,0,[],[]⟩,[],[]⟩
noncomputable def PP (p:cI) (r:cH):cI × List (List Int) × Int:=
 if cl (kT p∧iS r)=true then
  if 40 < (OQ p r).length∨300 < (EE p r).length then (aHq,[],5) else (⟨rK p r,mkQ p.M 0 (OQ p r),p.C⟩,(OQ p r).map R2,0)
 else (aHq,[],1)
theorem OQ_len (p:cI) (r:cH):(OQ p r).length=(iR p r).1.length:=ordQ_len _
theorem aNV (hp:cT p.S) (hr:cT r):(OQ p r).Nodup:=aPc (fin_W hp hr).1
theorem aFp (hp:cT p.S) (hr:cT r):(OQ p r).length≤1600:=by rw [OQ_len];exact (fin_W hp hr).len hp hr
theorem aFq {q:Int × Int}:q∈OQ p r↔q∈(iR p r).1:=aNP
theorem EE_len (hp:cT p.S) (hr:cT r):(EE p r).length=(iR p r).2.length:=by
 unfold EE
 rw [aFE hp hr,aDx,aDx]
 exact ((aFD (iR p r).1).map _).sum_nat
theorem pos_nodup {α:Type} [BEq α] [LawfulBEq α] {xs:List α} (h:xs.Nodup) {j:Nat} {q:α} (hj:xs[j]?=some q):pos xs q=(j:Int):=by
 obtain ⟨hl,e⟩:=List.getElem?_eq_some_iff.1 hj
 obtain ⟨i,hi,e1,e2⟩:=pQ (List.mem_of_getElem? hj)
 have:=(List.getElem_inj h).1 (e2.trans e.symm)
 omega
theorem aIN {α:Type} [BEq α] [LawfulBEq α] {xs:List α} {q:α} (h:q∈xs):∃ j:Nat,pos xs q=(j:Int)∧xs[j]?=some q:=by
 obtain ⟨i,hi,e1,e2⟩:=pQ h
 exact ⟨i,e1,by rw [List.getElem?_eq_getElem hi,e2]⟩
theorem aKd (hp:cT p.S) (hr:cT r) {e:Edge}:e∈EE p r↔∃ (q:Int × Int) (x:Int × Int × Int),q∈(iR p r).1∧x∈suc p r q (fP p q)∧e=⟨pos (OQ p r) q,x.1,pos (OQ p r) x.2⟩:=by
 unfold EE
 rw [aDy]
 constructor
 ·rintro ⟨j,q,x,hj,hx,rfl⟩
  exact ⟨q,x,aFq.1 (List.mem_of_getElem? hj),hx,by rw [pos_nodup (aNV hp hr) hj,Nat.zero_add]⟩
 ·rintro ⟨q,x,hq,hx,rfl⟩
  obtain ⟨j,h1,h2⟩:=aIN (aFq.2 hq)
  exact ⟨j,q,x,h2,hx,by rw [h1,Nat.zero_add]⟩
theorem EE_SE (hp:iS p.S):SE (EE p r):=(aGx hp (OQ p r) 0 (OQ p r)).imp fun h=>aFB h
theorem aNW (n:Nat) (h:n≤2000):aBK (n:Int)=some (List.replicate n true):=by
 unfold aBK
 rw [aFe _ (by simp [jJ];omega),aI]
 have:=gT (step:=fun s:List Bool × Int=>qM (n:Int) s.1 s.2) n (fun k out=>(out,(k:Int))) (fun _ _=>List.replicate n true) (fun k out=>out.length=n∧∀ (j:Nat),j < k→out[j]?=some true) (fun k out hk hI=>?_) (fun out hI=>?_) n 0 (List.replicate n false) (by omega) ⟨by simp,by simp⟩
 ·rw [show ((0:Nat):Int)=0 from rfl] at this
  rw [this,aI];rfl
 ·left
  obtain ⟨h1,h2⟩:=hI
  simp only [qM,cB hk,if_pos,cO (xs:=out) (k:=k) (by omega),aI,wN (xs:=out) (k:=k) true (by omega),bV hk (show n < 4611686018427387904 by omega)]
  refine ⟨out.set k true,rfl,⟨by simp [h1],fun j hj=>?_⟩,trivial⟩
  by_cases e:j=k
  ·subst e;rw [List.getElem?_set_self (by omega)]
  ·rw [List.getElem?_set_ne (by omega)];exact h2 j (by omega)
 ·have:out=List.replicate n true:=by
   apply List.ext_getElem?
   intro j
   by_cases hj:j < n
   ·rw [hI.2 j hj,List.getElem?_replicate,if_pos hj]
   ·rw [List.getElem?_eq_none (by omega),List.getElem?_replicate,if_neg hj]
  simp only [qM,bT,this];rfl
theorem foldO {F:List (Int × Int)}:∀ {Q:List (Int × Int)},(Q.Pairwise fun a b=>qLt a b=true)→((F.foldl aFM Q).Pairwise fun a b=>qLt a b=true)∧(∀ x,x∈F.foldl aFM Q↔x∈F∨x∈Q):=by
 induction F with
 |nil=>intro Q h;exact ⟨h,by simp⟩
 |cons q F ih=>
  intro Q h
  obtain ⟨h1,h2⟩:=ih (aIo (q:=q) h)
  refine ⟨h1,fun x=>?_⟩
  rw [List.foldl_cons,h2,aKb,List.mem_cons]
  constructor
  ·rintro (g|g|g)<;>simp [g]
  ·rintro ((g|g)|g)<;>simp [g]
theorem foldO_ord {F:List (Int × Int)} (h:F.Nodup):F.foldl aFM []=ordQ F:=by
 obtain ⟨h1,h2⟩:=foldO (F:=F) (Q:=[]) List.Pairwise.nil
 exact aEg (R:=fun a b=>qLt a b=true) (fun a h=>by rw [qLt_irr] at h;cases h) (fun h1 h2=>qLt_tr h1 h2) h1 (aNQ h) fun x=>by rw [h2,aNP];simp
theorem aNX (F:List (Int × Int)) (h:F.length≤1600):loop (fun s:List (List Int) × Int=>gA (F.map R2) (List.replicate F.length true) s.1 s.2) (([]:List (List Int)),0)=some ((F.foldl aFM []).map R2):=by
 have:=lR (step:=fun s:List (List Int) × Int=>gA (F.map R2) (List.replicate F.length true) s.1 s.2) F (fun k (Q:List (Int × Int))=>(Q.map R2,(k:Int))) (fun l Q=>(l.foldl aFM Q).map R2) (fun k Q=>Q.length≤k)
  (fun k Q x l hk hx hI=>?_) (fun Q hI=>by simp only [gA,List.length_map,bT];rfl) (a:=[]) (by simp)
 ·exact this
 ·left
  have hx':ix (F.map R2) (k:Int)=some (R2 x):=by
   obtain ⟨hk',rfl⟩:=pN hx
   rw [iT];simp [hk']
  have hkeep:ix (List.replicate F.length true) (k:Int)=some true:=by rw [iT,List.getElem?_replicate,if_pos hk]
  simp only [gA,List.length_map,cB hk,if_pos,hkeep,aI,hx']
  rw [aMz _ _ (by omega),aI]
  unfold jD
  rw [bV hk (show F.length < 4611686018427387904 by omega)]
  exact ⟨aFM Q x,rfl,by have:=aKc x Q;omega,rfl⟩
theorem aNY (F O:List (Int × Int)) (ed:List Edge) (hF:F.length≤1600) (hO:O.length≤1600) (hed:ed.length < 1000000) (g:Edge→Edge) (hg:∀ e∈ed,∃ (i j:Nat) (a b:Int × Int),e.F=(i:Int)∧e.To=(j:Int)∧F[i]?=some a∧F[j]?=some b∧g e=⟨pos O a,e.B,pos O b⟩):
  loop (fun s:List Edge × Int=>fZ (F.map R2) ed (List.replicate F.length true) (O.map R2) s.1 s.2) (([]:List Edge),0)=some (ed.map g):=by
 have:=aGA (step:=fun s:List Edge × Int=>fZ (F.map R2) ed (List.replicate F.length true) (O.map R2) s.1 s.2) ed g id (fun k out x hk ho hx=>?_) (fun out=>by simp only [fZ,bT];rfl)
 ·exact this
 ·obtain ⟨hk',rfl⟩:=pN hx
  obtain ⟨i,j,a,b,e1,e2,f1,f2,hge⟩:=hg _ (List.getElem_mem hk')
  have hil:=(List.getElem?_eq_some_iff.1 f1).1
  have hjl:=(List.getElem?_eq_some_iff.1 f2).1
  have k1:ix (List.replicate F.length true) (i:Int)=some true:=by rw [iT,List.getElem?_replicate,if_pos hil]
  have k2:ix (List.replicate F.length true) (j:Int)=some true:=by rw [iT,List.getElem?_replicate,if_pos hjl]
  have r1:ix (F.map R2) (i:Int)=some (R2 a):=by rw [iT,List.getElem?_map,f1];rfl
  have r2:ix (F.map R2) (j:Int)=some (R2 b):=by rw [iT,List.getElem?_map,f2];rfl
  have hrow:∀ q,xV (O.map R2) (R2 q)=some (pos O q):=fun q=>by rw [aHY _ _ (by simp;omega) (fun x hx=>by obtain ⟨y,_,rfl⟩:=List.mem_map.1 hx;simp [R2]),aMr]
  simp only [fZ,cB hk,if_pos,hx,aI,e1,e2,k1,k2,jB,r1,r2,hrow]
  rw [eW (by simp [jJ];omega),aI]
  unfold jA
  rw [bV hk (show ed.length < 4611686018427387904 by omega),hge]
theorem aIb (hp:cT p.S) {q:Int × Int} {x:Int × Int × Int} (h:x∈suc p r q (fP p q)):0≤x.1∧x.1 < p.S.L.length:=by
 obtain ⟨e,he,hl⟩:=aMx h
 have:=(mD hp (yJ _ he)).2.2
 omega
theorem build_eq (hp:iS p.S) (hr:iS r) (b:Bool):lB p r ((iR p r).1.map R2) (iR p r).2 b (List.replicate (iR p r).1.length true)=some (rK p r,(OQ p r).map R2):=by
 have hW:=fin_W hp.1 hr.1
 have hF:=hW.len hp.1 hr.1
 have hO:=aFp hp.1 hr.1
 have hlen:(iR p r).2.length < 1000000:=by
  rw [aFE hp.1 hr.1,aDx]
  have:∀ l:List (Int × Int),(l.map fun q=>(suc p r q (fP p q)).length).sum≤300 * l.length:=fun l=>by
   induction l with
   |nil=>simp
   |cons q l ih=>
    have h1:=aIL p r q (fP p q)
    have h2:=aBU hp.1 q
    simp only [List.map_cons,List.sum_cons,List.length_cons];omega
  have:=this (iR p r).1
  omega
 unfold lB
 rw [aNX _ hF,aI,foldO_ord hW.1]
 unfold jC
 have hf:∀ e∈(iR p r).2,∃ (q:Int × Int) (x:Int × Int × Int) (i j:Nat),(iR p r).1[i]?=some q∧x∈suc p r q (fP p q)∧(iR p r).1[j]?=some x.2∧e=⟨(i:Int),x.1,(j:Int)⟩:=fun e he=>by
  rw [aFE hp.1 hr.1] at he
  obtain ⟨i,q,x,hi,hx,rfl⟩:=aDy.1 he
  have hq:=List.mem_of_getElem? hi
  obtain ⟨j,e1,e2⟩:=aIN (aEm hp.1 hr.1 hq x hx)
  exact ⟨q,x,i,j,hi,hx,e2,by rw [e1,Nat.zero_add]⟩
 let g:Edge→Edge:=fun e=>⟨pos (OQ p r) ((iR p r).1.getD e.F.toNat (0,0)),e.B,pos (OQ p r) ((iR p r).1.getD e.To.toNat (0,0))⟩
 have hg:∀ e∈(iR p r).2,∃ (i j:Nat) (a b:Int × Int),e.F=(i:Int)∧e.To=(j:Int)∧(iR p r).1[i]?=some a∧(iR p r).1[j]?=some b∧g e=⟨pos (OQ p r) a,e.B,pos (OQ p r) b⟩:=fun e he=>by
  obtain ⟨q,x,i,j,h1,h2,h3,rfl⟩:=hf e he
  refine ⟨i,j,q,x.2,rfl,rfl,h1,h3,?_⟩
  simp only [g,Int.toNat_natCast,List.getD_eq_getElem?_getD,h1,h3,Option.getD_some]
 have:=aNY (iR p r).1 (OQ p r) (iR p r).2 hF hO hlen g hg
 rw [show (ordQ (iR p r).1)=OQ p r from rfl,this,aI]
 unfold iZ
 rw [show ix ((iR p r).1.map R2) 0=some (R2 (p.S.I,r.I)) from by
  rw [show (0:Int)=((0:Nat):Int) from rfl,iT,List.getElem?_map,aFF];rfl,aI]
 rw [aHY _ _ (by simp;omega) (fun x hx=>by obtain ⟨y,_,rfl⟩:=List.mem_map.1 hx;simp [R2]),aI,aMr]
 simp only [List.length_map]
 have hmem:∀ e,e∈(iR p r).2.map g↔e∈EE p r:=fun e=>by
  rw [List.mem_map,aKd hp.1 hr.1]
  constructor
  ·rintro ⟨e0,he0,rfl⟩
   obtain ⟨q,x,i,j,h1,h2,h3,rfl⟩:=hf e0 he0
   refine ⟨q,x,List.mem_of_getElem? h1,h2,?_⟩
   simp only [g,Int.toNat_natCast,List.getD_eq_getElem?_getD,h1,h3,Option.getD_some]
  ·rintro ⟨q,x,hq,hx,rfl⟩
   obtain ⟨i,_,h1⟩:=aIN hq
   obtain ⟨j,e1,h3⟩:=aIN (aEm hp.1 hr.1 hq x hx)
   refine ⟨⟨(i:Int),x.1,(j:Int)⟩,?_,?_⟩
   ·rw [aFE hp.1 hr.1,aDy]
    exact ⟨i,q,x,h1,hx,by rw [e1,Nat.zero_add]⟩
   ·simp only [g,Int.toNat_natCast,List.getD_eq_getElem?_getD,h1,h3,Option.getD_some]
 rw [aPf hp.1.2.2.1 (by rw [List.length_map];exact hlen) (fun e he=>by
  obtain ⟨q,x,_,hx,rfl⟩:=(aKd hp.1 hr.1).1 ((hmem e).1 he)
  exact aIb hp.1 hx) (EE_SE hp) hmem,aI]
 rfl
theorem l00Has_eq (xs:List Int) (v:Int) (h:xs.length < 1000000000):aAr xs v=some (xs.any fun x=>v == x):=by
 unfold aAr
 have:=aFd (step:=fun s=>rV xs v s) xs (fun x=>!(v == x)) (.inr true) (.inl ()) (fun k x hk hx=>by
  simp only [rV,cB hk,if_pos,hx,aI,bV hk (show xs.length < 4611686018427387904 by omega)]
  rw [show (x == v)=(v == x) from by rw [Bool.eq_iff_iff,beq_iff_eq,beq_iff_eq];exact eq_comm]
  cases v == x<;>rfl) (by simp only [rV,bT];rfl)
 rw [this,aI]
 have e:(xs.all fun x=>!(v == x))=!(xs.any fun x=>v == x):=by simp [List.all_eq_not_any_not]
 rw [e]
 cases xs.any fun x=>v == x<;>rfl
theorem aHr (p:cI) (r:cH) (hf:gG 999999999 p) (hr:gZ 999999999 r):sK p r=some (PP p r):=by
 unfold sK PP
 rw [l29Is_eq p hf,aI]
 by_cases hp:kT p
 ·rw [if_neg (by rw [jI hp];simp),aJV r hr,aI]
  by_cases hd:iS r
  ·rw [jI hd,if_pos (jI (P:=kT p∧iS r) ⟨hp,hd⟩)]
   unfold mY
   rw [if_neg (by simp),aNO hp.1 hd,aI]
   have hOl:=OQ_len p r
   have hEl:=EE_len hp.1.1 hd.1
   by_cases hbig:40 < (OQ p r).length∨300 < (EE p r).length
   ·rw [if_pos hbig,if_pos (by simp only [Bool.or_eq_true,decide_eq_true_eq];omega)];rfl
   ·rw [if_neg hbig,if_neg (by simp only [Bool.or_eq_true,decide_eq_true_eq];omega)]
    simp only [List.length_map]
    rw [aNW _ (by omega),aI,build_eq hp.1 hd,aI,eW (by have:=hf.len;simp [jJ];omega),aI,List.nil_append]
    unfold rH
    have hO:=aFp hp.1.1 hd.1
    have:=gT (step:=fun s:List Int × List (List Int) × Int=>jE p (rK p r,(OQ p r).map R2) s.1 s.2.1 s.2.2) (OQ p r).length (fun k (a:List Int × List (List Int))=>(a.1,a.2,(k:Int)))
     (fun k a=>(a.1++mkQ p.M k ((OQ p r).drop k),a.2++((OQ p r).drop k).map R2)) (fun k a=>a.1.length≤k∧a.2.length≤k) (fun k a hk hI=>?_) (fun a hI=>by simp only [jE,List.length_map,bT];simp [mkQ]) (OQ p r).length 0 ([],[]) (by omega) ⟨by simp,by simp⟩
    ·have this':loop (fun s:List Int × List (List Int) × Int=>jE p (rK p r,(OQ p r).map R2) s.1 s.2.1 s.2.2) (([]:List Int),([]:List (List Int)),0)=_:=this
     rw [this',aI]
     simp only [List.drop_zero,List.nil_append]
     rfl
    ·left
     obtain ⟨a1,a2⟩:=a
     obtain ⟨h1,h2⟩:=hI
     simp only at h1 h2
     have hrow:ix ((OQ p r).map R2) (k:Int)=some (R2 (OQ p r)[k]):=by rw [iT];simp [hk]
     have hw1:=bV hk (show (OQ p r).length < 4611686018427387904 by omega)
     rw [List.drop_eq_getElem_cons hk]
     simp only [jE,List.length_map,cB hk,if_pos,hrow,aI,show ix (R2 (OQ p r)[k]) 0=some (OQ p r)[k].1 from rfl]
     rw [l00Has_eq _ _ (by have:=hf.marks;omega),aI]
     have hown:aFb (R2 (OQ p r)[k])=some (R2 (OQ p r)[k]):=by unfold aFb;rw [eW (by simp [jJ,R2]),aI,List.nil_append]
     have hj2:∀ out,kO (rK p r,(OQ p r).map R2) a2 (k:Int) out=some (.inl (out,a2++[R2 (OQ p r)[k]],((k+1:Nat):Int))):=fun out=>by
      unfold kO
      simp only
      rw [hrow,aI,hown,aI,eW (by simp [jJ];omega),aI,hw1]
     by_cases hm:(p.M.any fun x=>(OQ p r)[k].1 == x)=true
     ·rw [if_pos hm,eW (by simp [jJ];omega),aI,hj2]
      refine ⟨(a1++[(k:Int)],a2++[R2 (OQ p r)[k]]),rfl,⟨by simp;omega,by simp;omega⟩,?_⟩
      simp only [mkQ,if_pos hm,List.map_cons,List.append_assoc,List.cons_append,List.nil_append]
     ·rw [if_neg hm,hj2]
      refine ⟨(a1,a2++[R2 (OQ p r)[k]]),rfl,⟨by simp only;omega,by simp;omega⟩,?_⟩
      simp only [mkQ,if_neg hm,List.map_cons,List.append_assoc,List.cons_append,List.nil_append]
  ·rw [iL hd,if_neg (by rw [iG];exact fun h=>hd h.2)];rfl
 ·rw [if_pos (by rw [iL hp];rfl),if_neg (by rw [iG];exact fun h=>hp h.1)];rfl
end Gv
namespace Gv
open Go
variable {p:cI} {r:cH}
theorem qV.cons {xs:List aZ} (h:qV xs):∃ L,xs=dY::L∧aFz L:=by
 obtain ⟨h1,h12,h0,hk⟩:=h
 cases xs with
 |nil=>simp at h1
 |cons a L=>
  have e:=h0 (by simp)
  simp only [List.getElem_cons_zero] at e
  subst e
  refine ⟨L,rfl,List.pairwise_iff_getElem.2 fun i j hi hj hij=>?_,fun hm=>?_⟩
  ·have:=aMa (xs:=dY::L) ⟨h1,h12,h0,hk⟩ (i:=i+1) (j:=j+1) (by omega) (by omega) (by simp;omega)
   simpa using this
  ·obtain ⟨j,hj,e⟩:=List.getElem_of_mem hm
   have:=(hk (j+1) (by omega) (by simp;omega)).2.1
   simp only [List.getElem_cons_succ] at this
   exact this e
theorem txt_cons {L:List aZ} (hL:p.S.L=dY::L) {e:Edge} (h:1≤e.B):txt p.S e=L.getD (e.B - 1).toNat []:=by
 unfold txt
 rw [hL,show e.B.toNat=(e.B - 1).toNat+1 by omega]
 simp
theorem aKe (hp:iS p.S) {q:Int × Int} {x:Int × Int × Int} (h:x∈suc p r q (fP p q)):1≤x.1:=by
 obtain ⟨e,he,hl⟩:=aMx h
 have hm:=yJ _ he
 have h0:=(mD hp.1 hm).2.2.1
 obtain ⟨k,hk,rfl⟩:=List.getElem_of_mem hm
 have:=(hp.2 k hk).1
 omega
theorem aPg (hp:iS p.S) (hr:iS r) {L:List aZ} (hL:p.S.L=dY::L) {O:List (Int × Int)} {q:Int × Int} (hc:∀ x∈suc p r q (fP p q),x.2∈O) (i:Nat) {arcs:List lS} (ha:arcs.length < 1000000) (x10:List (List Int)) (x11:List ((Int × Int) × Int)) (x12:List (List aZ)):
  lV p.S.N p.S.I p.S.L p.S.E p.M p.C r.N r.I r.L r.E x10 x11 x12 (R2 q) (mq 0 O) arcs (i:Int)
   =some (arcs++((suc p r q (fP p q)).map fun x=>(⟨(i:Int),x.1,pos O x.2⟩:Edge)).map (lF L)):=by
 unfold lV
 rw [show ix (R2 q) 0=some q.1 from rfl,aI,show (⟨p.S.N,p.S.I,p.S.L,p.S.E⟩:cH)=p.S from rfl,aJq _ _ (by have:=hp.1.2.2.2.1;omega),aI]
 rw [show (p.S.E.filter fun e=>e.F == q.1)=fP p q from rfl]
 have hol:=aBU hp.1 q
 have:=lR (step:=fun s:List lS × Int=>gH p.S.L r.N r.I r.L r.E (R2 q) (mq 0 O) (i:Int) (fP p q) s.1 s.2) (fP p q) (fun k (a:List lS)=>(a,(k:Int)))
  (fun l a=>a++((suc p r q l).map fun x=>(⟨(i:Int),x.1,pos O x.2⟩:Edge)).map (lF L)) (fun k a=>a.length≤arcs.length+k) (fun k a e l hk hx hI=>?_) (fun a hI=>by simp only [gH,bT];simp [suc]) (a:=arcs) (by simp)
 ·have this':loop (fun s:List lS × Int=>gH p.S.L r.N r.I r.L r.E (R2 q) (mq 0 O) (i:Int) (fP p q) s.1 s.2) (arcs,0)=_:=this
  rw [this',aI];rfl
 ·obtain ⟨hk',rfl⟩:=pN hx
  left
  have he:=yJ _ (List.getElem_mem hk')
  have heo:(fP p q)[k]∈fP p q:=List.getElem_mem hk'
  obtain ⟨z,hz,hzj⟩:=aNM hr q.2 (txt p.S (fP p q)[k])
  have hw1:=bV hk (show (fP p q).length < 4611686018427387904 by omega)
  simp only [gH,cB hk,if_pos,hx,aI,show ix (R2 q) 1=some q.2 from rfl,aAG (mD hp.1 he),show (⟨r.N,r.I,r.L,r.E⟩:cH)=r from rfl,hz]
  cases haq:alo r q.2 (txt p.S (fP p q)[k]) with
  |none=>
   refine ⟨a,by simp [hX,hw1],by omega,?_⟩
   simp only [suc,List.filterMap_cons,haq,Option.map_none]
  |some j=>
   obtain rfl:=hzj j haq
   have hmem:((fP p q)[k].B,(fP p q)[k].To,z)∈suc p r q (fP p q):=by
    unfold suc
    rw [List.mem_filterMap]
    exact ⟨_,heo,by rw [haq];rfl⟩
   have hO:=hc _ hmem
   simp only at hO
   have h1:=aKe hp hmem
   simp only at h1
   refine ⟨a++[⟨(i:Int),txt p.S (fP p q)[k],pos O ((fP p q)[k].To,z)⟩],?_,by simp;omega,?_⟩
   ·simp only [Option.isSome_some,if_true]
    unfold mZ
    rw [aMv hO]
    simp only [Option.isSome_some,if_true,Option.getD_some]
    rw [eW (by simp [jJ];omega),aI,aI]
    simp only [hX,hw1]
   ·simp only [suc,List.filterMap_cons,haq,Option.map_some,List.map_cons,List.append_assoc,List.cons_append,List.nil_append]
    rw [show lF L (⟨(i:Int),(fP p q)[k].B,pos O ((fP p q)[k].To,z)⟩:Edge)=⟨(i:Int),txt p.S (fP p q)[k],pos O ((fP p q)[k].To,z)⟩ from by
     unfold lF;rw [txt_cons hL h1]]
theorem suc_all (hp:cT p.S) (l:List (Int × Int)) (FF:List (Int × Int)) (i:Nat):(yK p r FF i l).length≤300 * l.length:=by
 rw [aDx]
 induction l with
 |nil=>simp
 |cons q l ih=>
  have h1:=aIL p r q (fP p q)
  have h2:=aBU hp q
  simp only [List.map_cons,List.sum_cons,List.length_cons];omega
theorem R2_nodup {F:List (Int × Int)} (h:F.Nodup):(F.map R2).Nodup:=by
 unfold List.Nodup at *
 rw [List.pairwise_map]
 exact h.imp fun h e=>h (R2_inj e)
theorem system_eq (hp:iS p.S) (hr:iS r) (M:List ((Int × Int) × Int)) (P:List (List aZ)):
  kJ p.S.N p.S.I p.S.L p.S.E p.M p.C r.N r.I r.L r.E ((iR p r).1.map R2) M P (List.replicate (iR p r).1.length true)=some (rK p r,(OQ p r).map R2):=by
 have hW:=fin_W hp.1 hr.1
 have hF:=hW.len hp.1 hr.1
 have hO:=aFp hp.1 hr.1
 have hOn:=aNV hp.1 hr.1
 unfold kJ
 have e1:=aGA (step:=fun s:List (List Int) × Int=>gN ((iR p r).1.map R2) (List.replicate (iR p r).1.length true) s.1 s.2) ((iR p r).1.map R2) id id (fun k out x hk ho hx=>?_) (fun out=>by simp only [gN,bT];rfl)
 ·rw [e1,aI]
  simp only [List.map_id,id]
  unfold iJ
  have e2:aBv ((iR p r).1.map R2)=some ((OQ p r).map R2):=by
   unfold aBv
   rw [if_pos ⟨by simp [jJ];omega,R2_nodup hW.1,fun x hx=>by obtain ⟨y,_,rfl⟩:=List.mem_map.1 hx;simp [R2,jJ]⟩,ordQ_row];rfl
  rw [e2,aI]
  have e3:=gT (step:=fun s:List ((Int × Int) × Int) × Int=>fO ((OQ p r).map R2) s.1 s.2) (OQ p r).length (fun k (_:Unit)=>(mq 0 ((OQ p r).take k),(k:Int))) (fun _ _=>mq 0 (OQ p r)) (fun _ _=>True) (fun k a hk _=>?_) (fun a _=>?_) (OQ p r).length 0 () (by omega) trivial
  ·have e3':loop (fun s:List ((Int × Int) × Int) × Int=>fO ((OQ p r).map R2) s.1 s.2) (([]:List ((Int × Int) × Int)),0)=_:=e3
   rw [e3',aI]
   unfold iI
   obtain ⟨L,hL,hLs⟩:=hp.1.2.2.1.cons
   have e4:=gT (step:=fun s:List lS × Int=>fN p.S.N p.S.I p.S.L p.S.E p.M p.C r.N r.I r.L r.E ((iR p r).1.map R2) M P ((OQ p r).map R2) (mq 0 (OQ p r)) s.1 s.2) (OQ p r).length (fun k (a:List lS)=>(a,(k:Int)))
    (fun k a=>a++(yK p r (OQ p r) k ((OQ p r).drop k)).map (lF L)) (fun k a=>a.length≤300 * k) (fun k a hk hI=>?_) (fun a _=>by simp only [fN,List.length_map,bT];simp [yK]) (OQ p r).length 0 [] (by omega) (by simp)
   ·have e4':loop (fun s:List lS × Int=>fN p.S.N p.S.I p.S.L p.S.E p.M p.C r.N r.I r.L r.E ((iR p r).1.map R2) M P ((OQ p r).map R2) (mq 0 (OQ p r)) s.1 s.2) (([]:List lS),0)=_:=e4
    rw [e4',aI]
    simp only [List.drop_zero,List.nil_append]
    rw [show yK p r (OQ p r) 0 (OQ p r)=EE p r from rfl]
    unfold iH
    have hlab:∀ e∈EE p r,1≤e.B∧e.B≤L.length:=fun e he=>by
     obtain ⟨q,x,_,hx,rfl⟩:=(aKd hp.1 hr.1).1 he
     have h1:=aKe hp hx
     have h2:=(aIb hp.1 hx).2
     rw [hL] at h2
     simp only [List.length_cons] at h2 ⊢
     omega
    have hback:=aLo hLs hlab
    have hinit:(p.S.I,r.I)∈OQ p r:=aFq.2 (List.mem_of_getElem? (aFF p r))
    have h12:=hp.1.2.2.1.2.1
    have hEl:(EE p r).length≤300 * (OQ p r).length:=suc_all hp.1 _ _ _
    rw [show (⟨p.S.I,r.I⟩:Int × Int)=(p.S.I,r.I) from rfl,aMv hinit,Option.getD_some]
    rw [aMk (labels:=p.S.L) (M:=L) hLs (fun s hs=>by rw [hL];simp [hs]) (by omega) (by simp;omega) (by rw [hback];exact EE_SE hp) (by rw [hL] at h12;simp at h12;omega),aI,hback]
    unfold rK
    rw [List.length_map,←hL]
   ·left
    have hrow:ix ((OQ p r).map R2) (k:Int)=some (R2 (OQ p r)[k]):=by rw [iT];simp [hk]
    have hq:(OQ p r)[k]∈(iR p r).1:=aFq.1 (List.getElem_mem hk)
    simp only [fN,List.length_map,cB hk,if_pos,hrow,aI]
    rw [aPg hp hr hL (O:=OQ p r) (fun x hx=>aFq.2 (aEm hp.1 hr.1 hq x hx)) k (by omega),aI,bV hk (show (OQ p r).length < 4611686018427387904 by omega)]
    have hsl:=aIL p r (OQ p r)[k] (fP p (OQ p r)[k])
    have hol:=aBU hp.1 (OQ p r)[k]
    refine ⟨_,rfl,by simp;omega,?_⟩
    rw [List.drop_eq_getElem_cons hk]
    simp only [yK,List.map_append,List.append_assoc]
  ·left
   have hrow:ix ((OQ p r).map R2) (k:Int)=some (R2 (OQ p r)[k]):=by rw [iT];simp [hk]
   have hn:(OQ p r)[k]∉(OQ p r).take k:=fun hm=>by
    obtain ⟨j,hj,e⟩:=List.getElem_of_mem hm
    rw [List.length_take] at hj
    rw [List.getElem_take] at e
    have:=(List.getElem_inj hOn).1 e
    omega
   have hput:=aMu (k:=0) hn
   rw [Nat.zero_add,List.length_take,Nat.min_eq_left (by omega)] at hput
   have hput':aEz (mq 0 ((OQ p r).take k)) (⟨(OQ p r)[k].1,(OQ p r)[k].2⟩:Int × Int) (k:Int)=mq 0 ((OQ p r).take k++[(OQ p r)[k]]):=hput
   refine ⟨(),?_,trivial,rfl⟩
   simp only [fO,List.length_map,cB hk,if_pos,hrow,aI,show ix (R2 (OQ p r)[k]) 0=some (OQ p r)[k].1 from rfl,show ix (R2 (OQ p r)[k]) 1=some (OQ p r)[k].2 from rfl,hput',bV hk (show (OQ p r).length < 4611686018427387904 by omega)]
   rw [List.take_add_one,List.getElem?_eq_getElem hk];rfl
  ·rw [List.take_length]
   simp only [fO,List.length_map,bT];rfl
 ·have hk2:k < (iR p r).1.length:=by simpa using hk
  obtain ⟨hk',rfl⟩:=pN hx
  have hkeep:ix (List.replicate (iR p r).1.length true) (k:Int)=some true:=by rw [iT,List.getElem?_replicate,if_pos hk2]
  have hcl:dV ((iR p r).1.map R2)[k]=some ((iR p r).1.map R2)[k]:=by
   unfold dV
   rw [eW (by simp [jJ,R2]),aI,List.nil_append]
  simp only [gN,cB hk,if_pos,hx,aI,hkeep,hcl]
  rw [eW (by simp [jJ];omega),aI]
  unfold iK
  rw [bV hk (show ((iR p r).1.map R2).length < 4611686018427387904 by simp;omega)]
  rfl
end Gv
namespace Gv
open Go
variable {p:cI} {r:cH}
theorem mkQ_in (M:List Int):∀ (l:List (Int × Int)) (k:Nat),∀ x∈mkQ M k l,(k:Int)≤x∧x < (k+l.length:Nat)
 |[],_=>by simp [mkQ]
 |q::l,k=>by
  intro x hx
  unfold mkQ at hx
  have ih:=mkQ_in M l (k+1)
  simp only [List.length_cons]
  split at hx
  ·rcases List.mem_cons.1 hx with rfl|hx
   ·omega
   ·have:=ih x hx;omega
  ·have:=ih x hx;omega
theorem aNZ (M:List Int):∀ (l:List (Int × Int)) (k:Nat),(mkQ M k l).Pairwise fun a b=>a < b
 |[],_=>List.Pairwise.nil
 |q::l,k=>by
  unfold mkQ
  have ih:=aNZ M l (k+1)
  split
  ·rw [List.pairwise_cons]
   exact ⟨fun x hx=>by have:=mkQ_in M l (k+1) x hx;omega,ih⟩
  ·exact ih
theorem aMA (M:List Int):∀ (l:List (Int × Int)) (k:Nat),(mkQ M k l).length≤l.length
 |[],_=>by simp [mkQ]
 |q::l,k=>by
  unfold mkQ
  have ih:=aMA M l (k+1)
  split<;>simp<;>omega
theorem rise_of {hi:Int} {xs:List Int} (h1:∀ x∈xs,0≤x∧x≤hi) (h2:xs.Pairwise fun a b=>a < b):aAP 0 hi xs:=
 fun k hk=>⟨h1 _ (List.getElem_mem hk),fun h=>List.pairwise_iff_getElem.1 h2 (k - 1) k (by omega) hk (by omega)⟩
theorem init_O (p:cI) (r:cH):(p.S.I,r.I)∈OQ p r:=aFq.2 (List.mem_of_getElem? (aFF p r))
theorem prod_ok (hp:kT p) (hr:iS r):kT ⟨rK p r,mkQ p.M 0 (OQ p r),p.C⟩↔¬ (40 < (OQ p r).length∨300 < (EE p r).length):=by
 obtain ⟨hd,_,hn⟩:=hp
 constructor
 ·rintro ⟨⟨⟨hs,_,_,he,_⟩,_⟩,_⟩ h
  have hs2:((OQ p r).length:Int)≤40:=hs.2
  have he2:(EE p r).length≤300:=he
  omega
 ·intro h
  have hpos:1≤(OQ p r).length:=List.length_pos_of_mem (init_O p r)
  obtain ⟨i,hi,e1,_⟩:=pQ (init_O p r)
  have hEin:∀ e∈EE p r,zD (rK p r) e:=fun e he=>by
   obtain ⟨q,x,hq,hx,rfl⟩:=(aKd hd.1 hr.1).1 he
   obtain ⟨j,hj,f1,_⟩:=pQ (aFq.2 hq)
   obtain ⟨k,hk,f2,_⟩:=pQ (aFq.2 (aEm hd.1 hr.1 hq x hx))
   have hl:=aIb hd.1 hx
   refine ⟨?_,?_,?_⟩<;>(simp only [rK];omega)
  have hpair:=aGx (p:=p) (r:=r) hd (OQ p r) 0 (OQ p r)
  refine ⟨⟨⟨⟨by simp only [rK];omega,by simp only [rK];omega⟩,⟨by simp only [rK];omega,by simp only [rK];omega⟩,hd.1.2.2.1,by show (EE p r).length≤300;omega,fun k hk=>⟨hEin _ (List.getElem_mem hk),fun h1=>?_⟩⟩,fun k hk=>⟨?_,fun h1 hc=>?_⟩⟩,?_,hn⟩
  ·exact List.pairwise_iff_getElem.1 (EE_SE hd) (k - 1) k (by have:k < (EE p r).length:=hk;omega) hk (by omega)
  ·have hm:(rK p r).E[k]∈EE p r:=List.getElem_mem hk
   obtain ⟨q,x,_,hx,e⟩:=(aKd hd.1 hr.1).1 hm
   rw [e]
   have:=aKe hd hx
   simp only;omega
  ·have hk':k < (EE p r).length:=hk
   have hpair':(EE p r).Pairwise aAO:=hpair
   have:=List.pairwise_iff_getElem.1 hpair' (k - 1) k (by omega) hk' (by omega)
   unfold aAO at this
   have h3:((EE p r)[k]'hk').F=((EE p r)[k - 1]'(by omega)).F∧((EE p r)[k]'hk').B=((EE p r)[k - 1]'(by omega)).B:=hc
   omega
  ·refine rise_of (fun x hx=>?_) (aNZ _ _ _)
   have:=mkQ_in _ _ _ x hx
   simp only [rK];omega
theorem prod_fits (hp:kT p) (hr:iS r) (hf:gG 999999999 p):gG 999999999 ⟨rK p r,mkQ p.M 0 (OQ p r),p.C⟩:=by
 have hO:=aFp hp.1.1 hr.1
 have hE:(EE p r).length≤300 * (OQ p r).length:=suc_all hp.1.1 _ _ _
 have hM:=aMA p.M (OQ p r) 0
 exact ⟨⟨hf.sys.1,hf.sys.2.1,by show (EE p r).length≤_;omega⟩,by show (mkQ p.M 0 (OQ p r)).length≤_;omega,hf.len,hf.names⟩
theorem aHs (p:cI) (r:cH) (hf:gG 999999999 p) (hr:gZ 999999999 r):oU p r=some (PP p r):=by
 unfold oU PP
 rw [aMp p r hf hr,aI]
 by_cases h:kT p∧iS r
 ·obtain ⟨hp,hd⟩:=h
  rw [jI (P:=kT p∧iS r) ⟨hp,hd⟩]
  simp only [if_true]
  rw [if_neg (by decide)]
  obtain ⟨P,hP⟩:=aKO hp.1 hd
  have hF:=(fin_W hp.1.1 hd.1).len hp.1.1 hd.1
  have hF1:1≤(iR p r).1.length:=List.length_pos_of_mem (List.mem_of_getElem? (aFF p r))
  rw [hP,aI]
  simp only [List.length_map]
  rw [aHK true _ hF1 (by omega),aI,system_eq hp.1 hd,aI]
  unfold eC
  rw [eW (by have:=hf.len;simp [jJ];omega),aI,aI,List.nil_append]
  unfold rJ
  have hO:=aFp hp.1.1 hd.1
  have:=gT (step:=fun s:List Int × Int=>jG p (rK p r,(OQ p r).map R2) s.1 s.2) (OQ p r).length (fun k (a:List Int)=>(a,(k:Int)))
   (fun k a=>a++mkQ p.M k ((OQ p r).drop k)) (fun k a=>a.length≤k) (fun k a hk hI=>?_) (fun a hI=>by simp only [jG,List.length_map,bT];simp [mkQ]) (OQ p r).length 0 [] (by omega) (by simp)
  ·have this':loop (fun s:List Int × Int=>jG p (rK p r,(OQ p r).map R2) s.1 s.2) (([]:List Int),0)=_:=this
   rw [this',aI]
   simp only [List.drop_zero,List.nil_append]
   unfold nA
   simp only
   have hv:=aFW _ (prod_fits hp hd hf)
   rw [show (⟨⟨(rK p r).N,(rK p r).I,(rK p r).L,(rK p r).E⟩,mkQ p.M 0 (OQ p r),p.C⟩:cI)=⟨rK p r,mkQ p.M 0 (OQ p r),p.C⟩ from rfl,hv,aI]
   by_cases hbig:40 < (OQ p r).length∨300 < (EE p r).length
   ·rw [if_pos hbig,if_pos (by rw [iL (fun h=>(prod_ok hp hd).1 h hbig)];rfl)];rfl
   ·rw [if_neg hbig,if_neg (by rw [jI ((prod_ok hp hd).2 hbig)];simp)]
  ·left
   have hrow:ix ((OQ p r).map R2) (k:Int)=some (R2 (OQ p r)[k]):=by rw [iT];simp [hk]
   have hw1:=bV hk (show (OQ p r).length < 4611686018427387904 by omega)
   rw [List.drop_eq_getElem_cons hk]
   simp only [jG,List.length_map,cB hk,if_pos,hrow,aI,show ix (R2 (OQ p r)[k]) 0=some (OQ p r)[k].1 from rfl]
   unfold yE
   rw [aHc _ _ (by have:=hf.marks;omega),aI,aI]
   by_cases hm:(p.M.any fun x=>(OQ p r)[k].1 == x)=true
   ·rw [if_pos hm,eW (by simp [jJ];omega),aI]
    refine ⟨a++[(k:Int)],by simp only [kR,hw1],by simp;omega,?_⟩
    simp only [mkQ,if_pos hm,List.append_assoc,List.cons_append,List.nil_append]
   ·rw [if_neg hm]
    refine ⟨a,by simp only [kR,hw1],by omega,?_⟩
    simp only [mkQ,if_neg hm]
 ·rw [iL h]
  simp only [Bool.false_eq_true,if_false]
  rw [if_pos (by decide)];rfl
end Gv
namespace Gv
open Go
theorem aKS {a:List Int} {left:Int} (h0:0≤left) (hl:left≤sz) (ha:a.length < 9223372036854775808):
  ∃ r,aBG a left=some r∧(0≤r→r≤left∧(a.length:Int)≤left):=by
 unfold sz at hl
 unfold aBG
 have e1:wr (left - (a.length:Int))=left - (a.length:Int):=by unfold wr;omega
 rw [e1]
 by_cases hneg:left - (a.length:Int) < 0
 ·exact ⟨-1,by rw [if_pos (by simpa using hneg)],by omega⟩
 ·exact ⟨_,by rw [if_neg (by simpa using hneg)],by omega⟩
theorem aMB {p:cI} {left:Int} (h0:0≤left) (hl:left≤sz) (hp:gG 9223372036854775807 p):
  ∃ r,aDd p left=some r∧(0≤r→r≤left∧gG sz p):=by
 obtain ⟨r,hr,h1⟩:=aGq h0 hl hp.sys
 unfold aDd
 rw [hr,aI]
 by_cases hn:r < 0
 ·exact ⟨-1,by rw [if_pos (by simpa using hn)],by omega⟩
 rw [if_neg (by simpa using hn)]
 obtain ⟨i1,i2⟩:=h1 (by omega)
 obtain ⟨r2,hr2,h2⟩:=aKS (a:=p.M) (left:=r) (by omega) (by omega) (by have:=hp.marks;omega)
 rw [hr2,aI]
 by_cases hn2:r2 < 0
 ·exact ⟨-1,by rw [if_pos (by simpa using hn2)],by omega⟩
 rw [if_neg (by simpa using hn2)]
 obtain ⟨j1,j2⟩:=h2 (by omega)
 obtain ⟨r3,hr3,h3⟩:=aBM (a:=p.C) (left:=r2) (by omega) (by omega) (by have:=hp.len;omega) (fun s hs=>by have:=hp.names s hs;omega)
 rw [hr3,aI]
 by_cases hn3:r3 < 0
 ·exact ⟨-1,by rw [if_pos (by simpa using hn3)],by omega⟩
 rw [if_neg (by simpa using hn3)]
 obtain ⟨k1,k2,k3⟩:=h3 (by omega)
 unfold sz at *
 exact ⟨_,rfl,fun _=>⟨by omega,⟨i2,by omega,by omega,fun s hs=>by have:=k3 s hs;omega⟩⟩⟩
theorem aOa {a:List Int} (h:a.length≤jJ):aBL a=some a:=by
 unfold aBL
 rw [aFe _ h,aI,yF (a:=a) (z:=(0:Int))]
 ·rfl
 ·intro k out x hk ho hx
  simp only [uU,cB hk,if_pos,hx,cO (xs:=out) (k:=k) (by omega),aI,wN (xs:=out) (k:=k) _ (show k < out.length by omega),bV hk (show a.length < 4611686018427387904 by unfold jJ at h;omega)]
 ·intro out
  simp only [uU,bT];rfl
theorem aPi {p:cI} (h:gG jJ p):wH p=some p:=by
 unfold wH
 rw [aJd h.sys,aI,aOa h.marks,aI,aEa h.len,aI]
theorem aKf (a:cI) (h:gG sz a):wJ a a=some true:=by
 unfold wJ
 have h1:=aGW a.S a.S (h.sys.mono (by decide))
 rw [decide_eq_true (p:=a.S=a.S) rfl] at h1
 have h2:=aFf a.M a.M (by have:=h.marks;unfold sz at this;omega)
 rw [decide_eq_true (p:=a.M=a.M) rfl] at h2
 have h3:=aEb a.C a.C (by have:=h.len;unfold sz at this;omega)
 rw [decide_eq_true (p:=a.C=a.C) rfl] at h3
 simp only [h1,h2,h3,aI,Bool.not_true,Bool.false_eq_true,if_false]
theorem aMC (a:List (List Int)) (h:a.length < 1000000) (h2:∀ x∈a,x.length < 1000000):sO a a=some true:=by
 unfold sO
 rw [if_neg (by simp)]
 have:=aFd (step:=fun s=>oV a a s) a (fun _=>true) (.inr false) (.inl ()) (fun k x hk hx=>by
  obtain ⟨hk',rfl⟩:=pN hx
  have h3:=aFf a[k] a[k] (by have:=h2 _ (List.getElem_mem hk');omega)
  rw [decide_eq_true (p:=a[k]=a[k]) rfl] at h3
  simp only [oV,cB hk,if_pos,hx,aI,h3,bV hk (show a.length < 4611686018427387904 by omega)]
  rfl) (by simp only [oV,bT];rfl)
 rw [this,aI]
 simp [sN]
theorem aKg {t:cH} (hf:gZ sz t) (a b:Int) {k:Int} (h0:0≤k) (hk:k≤1000000000):qH a b t.L t.E k=some (k+t.L.length+3 * t.E.length,mS k t.L.length,mE (k+t.L.length) t.E.length):=by
 obtain ⟨f1,_,f3⟩:=hf
 unfold sz at f1 f3
 unfold qH
 rw [yG (by omega) (by omega) (by omega),aI]
 simp only
 rw [aGX (by omega) (by omega) (by omega),aI]
def kP (p:cI):Int:=1+p.S.L.length+3 * p.S.E.length+p.M.length+p.C.length
theorem kP_in {p:cI} (hf:gG sz p):1≤kP p∧kP p≤10000000:=by
 have h1:=hf.sys.1
 have h2:=hf.sys.2.2
 have h3:=hf.marks
 have h4:=hf.len
 unfold sz at h1 h2 h3 h4
 unfold kP;omega
theorem aKh {p:cI} (hf:gG sz p):∃ Ls Es Ms Cs,wK p.S.N p.S.I p.S.L p.S.E p.M p.C 1=some (kP p,Ls,Es,Ms,Cs)∧wL ⟨⟨p.S.N,p.S.I,Ls,Es⟩,Ms,Cs⟩ 1=some (kP p):=by
 have h1:=aKg hf.sys p.S.N p.S.I (k:=1) (by omega) (by omega)
 have g1:=hf.sys.1
 have g2:=hf.sys.2.2
 have g3:=hf.marks
 have g4:=hf.len
 unfold sz at g1 g2 g3 g4
 refine ⟨mS 1 p.S.L.length,mE (1+p.S.L.length) p.S.E.length,mI (1+p.S.L.length+3 * p.S.E.length) p.M.length,mS (1+p.S.L.length+3 * p.S.E.length+p.M.length) p.C.length,?_,?_⟩
 ·unfold wK
  rw [h1,aI]
  simp only
  rw [aCI (by omega) (by omega) (by omega),aI]
  simp only
  rw [yG (by omega) (by omega) (by omega),aI]
  rfl
 ·unfold wL aBm
  simp only
  rw [aBN (by omega) (by omega) (by omega),aI,if_neg (by simp only [decide_eq_true_eq];omega),aGY (by omega) (by omega) (by omega),aI,if_neg (by simp only [decide_eq_true_eq];omega),aI,if_neg (by simp only [decide_eq_true_eq];omega),aCJ (by omega) (by omega) (by omega),aI,if_neg (by simp only [decide_eq_true_eq];omega),aBN (by omega) (by omega) (by omega),aI,if_neg (by simp only [decide_eq_true_eq];omega)]
  rfl
def mR (k:Int) (n:Nat):List (List Int):=(List.range n).map fun i=>mI (k+(2:Nat) * (i:Nat)) 2
theorem aKi {a:List (List Int)} {k:Int} (h0:0≤k) (hk:k≤1000000000) (ha:a.length≤1000000) (h2:∀ x∈a,x.length=2):uV a k=some (k+(2:Nat) * a.length,mR k a.length):=by
 unfold uV
 have:=gT (step:=fun s:List (List Int) × Int × Int=>jT s.1 s.2.1 s.2.2) a.length (fun i out=>(out,k+(2:Nat) * (i:Nat),(i:Int))) (fun _ _=>(k+(2:Nat) * a.length,mR k a.length))
  (fun i out=>out.length=a.length∧(∀ (j:Nat),j < i→out[j]?=some (mI (k+(2:Nat) * (j:Nat)) 2))∧∀ (j:Nat),i≤j→out[j]?=a[j]?) (fun i out hi hI=>?_) (fun out hI=>?_) a.length 0 a (by omega) ⟨rfl,fun j hj=>by omega,fun j _=>rfl⟩
 ·have this':loop (fun s:List (List Int) × Int × Int=>jT s.1 s.2.1 s.2.2) (a,k,0)=some (k+(2:Nat) * a.length,mR k a.length):=by
   have e:((a,k,0):List (List Int) × Int × Int)=(a,k+(2:Nat) * ((0:Nat):Nat),((0:Nat):Int)):=by simp
   rw [e];exact this
  rw [this',aI];rfl
 ·left
  obtain ⟨h3,h4,h5⟩:=hI
  have hi':i < out.length:=by omega
  have e1:out[i]=a[i]:=by
   have:=h5 i (Nat.le_refl _)
   rw [List.getElem?_eq_getElem hi',List.getElem?_eq_getElem hi] at this
   exact Option.some.inj this
  have hl:=h2 _ (List.getElem_mem hi)
  simp only [jT,h3,cB hi,if_pos,cO hi',aI]
  rw [e1,aCI (by omega) (by omega) (by omega),aI]
  simp only
  rw [wN _ hi',aI,bV hi (show a.length < 4611686018427387904 by omega),hl]
  refine ⟨out.set i (mI (k+(2:Nat) * (i:Nat)) 2),?_,⟨by simp [h3],fun j hj=>?_,fun j hj=>?_⟩,trivial⟩
  ·simp only [Option.some.injEq,Sum.inl.injEq,Prod.mk.injEq,true_and,and_true];omega
  ·by_cases e:j=i
   ·subst e;rw [List.getElem?_set_self hi']
   ·rw [List.getElem?_set_ne (by omega)];exact h4 j (by omega)
  ·rw [List.getElem?_set_ne (by omega)];exact h5 j (by omega)
 ·obtain ⟨h3,h4,_⟩:=hI
  have:out=mR k a.length:=by
   apply List.ext_getElem?
   intro j
   by_cases hj:j < a.length
   ·rw [h4 j hj];simp [mR,hj]
   ·rw [List.getElem?_eq_none (by omega),List.getElem?_eq_none (by simp [mR];omega)]
  simp only [jT,h3,bT];rw [this];rfl
theorem aKj {n:Nat} {k:Int} (h0:0≤k) (hk:k≤1000000000) (hn:n≤1000000):qN (mR k n) k=some (k+(2:Nat) * n):=by
 unfold qN
 have hl:(mR k n).length=n:=by simp [mR]
 have:=gT (step:=fun s:Int × Int=>jU (mR k n) s.1 s.2) n (fun i (_:Unit)=>(k+(2:Nat) * (i:Nat),(i:Int))) (fun _ _=>.inl (k+(2:Nat) * n)) (fun _ _=>True) (fun i a hi _=>?_) (fun a _=>?_) n 0 () (by omega) trivial
 ·have this':loop (fun s:Int × Int=>jU (mR k n) s.1 s.2) (k,0)=some (.inl (k+(2:Nat) * n)):=by
   have e:((k,0):Int × Int)=(k+(2:Nat) * ((0:Nat):Nat),((0:Nat):Int)):=by simp
   rw [e];exact this
  rw [this',aI];rfl
 ·left
  refine ⟨(),?_,trivial,rfl⟩
  have hi':i < (mR k n).length:=by omega
  simp only [jU,hl,cB hi,if_pos,cO hi',aI]
  rw [show (mR k n)[i]=mI (k+(2:Nat) * (i:Nat)) 2 by simp [mR],aCJ (by omega) (by omega) (by omega),aI,if_neg (by simp only [decide_eq_true_eq];omega),bV hi (show n < 4611686018427387904 by omega)]
  simp only [Option.some.injEq,Sum.inl.injEq,Prod.mk.injEq,and_true];omega
 ·simp only [jU,hl,bT];rfl
theorem PP_fits {p:cI} {r:cH} (hf:gG sz p):gG sz (PP p r).1∧(PP p r).2.1.length≤1600∧∀ x∈(PP p r).2.1,x.length=2:=by
 have h0:gG sz aHq:=⟨⟨by simp [aHq],by simp [aHq],by simp [aHq]⟩,by simp [aHq],by simp [aHq],by simp [aHq]⟩
 unfold PP
 split
 ·rename_i h
  obtain ⟨hp,hd⟩:=iG.1 h
  split
  ·exact ⟨h0,by simp,by simp⟩
  ·rename_i hbig
   have hM:=aMA p.M (OQ p r) 0
   refine ⟨⟨⟨hf.sys.1,hf.sys.2.1,by show (EE p r).length≤_;unfold sz;omega⟩,by show (mkQ p.M 0 (OQ p r)).length≤_;unfold sz;omega,hf.len,hf.names⟩,by simp;omega,fun x hx=>?_⟩
   obtain ⟨q,_,rfl⟩:=List.mem_map.1 hx
   rfl
 ·exact ⟨h0,by simp,by simp⟩
theorem lawPlant (aP:cI) (aR:cH) (hP:gG 9223372036854775807 aP) (hR:gZ 9223372036854775807 aR):mC aP aR=some true:=by
 obtain ⟨r,hr,h1⟩:=aMB (p:=aP) (left:=1048576) (by omega) (by decide) hP
 unfold mC
 rw [hr,aI]
 by_cases hn:r < 0
 ·rw [if_pos (by simpa using hn)]
 rw [if_neg (by simpa using hn)]
 obtain ⟨hrl,hfit⟩:=h1 (by omega)
 obtain ⟨r',hr',h2⟩:=aGq (t:=aR) (left:=r) (by omega) (by unfold sz;omega) hR
 rw [hr',aI]
 by_cases hn':r' < 0
 ·rw [if_pos (by simpa using hn')]
 rw [if_neg (by simpa using hn')]
 obtain ⟨_,hfitR⟩:=h2 (by omega)
 have t1:=aPi (hfit.mono sz_lim)
 have t2:=aJd (hfitR.mono sz_lim)
 have s1:=aHr aP aR (hfit.mono (by decide)) (hfitR.mono (by decide))
 have i1:=aHs aP aR (hfit.mono (by decide)) (hfitR.mono (by decide))
 obtain ⟨pf,pl,p2⟩:=PP_fits (r:=aR) hfit
 have e1:=aKf (PP aP aR).1 pf
 have e2:=aMC (PP aP aR).2.1 (by omega) (fun x hx=>by have:=p2 x hx;omega)
 have e3:=aKf aP hfit
 have e4:=aGW aR aR (hfitR.mono (by decide))
 rw [decide_eq_true (p:=aR=aR) rfl] at e4
 obtain ⟨Ls,Es,Ms,Cs,m1,m2⟩:=aKh pf
 obtain ⟨Ls',Es',Ms',Cs',k1,_⟩:=aKh hfit
 have kb:=kP_in pf
 have kb':=kP_in hfit
 have k2:=aKg hfitR aR.N aR.I (k:=kP aP) (by omega) (by omega)
 have m3:=aKi (a:=(PP aP aR).2.1) (k:=kP (PP aP aR).1) (by omega) (by omega) (by omega) p2
 have m4:=aKj (n:=(PP aP aR).2.1.length) (k:=kP (PP aP aR).1) (by omega) (by omega) (by omega)
 obtain ⟨f1,_,f3⟩:=hfitR
 unfold sz at f1 f3
 generalize PP aP aR=R at *
 obtain ⟨⟨⟨R1,R2,R3,R4⟩,R5,R6⟩,R7,R8⟩:=R
 simp only at *
 simp only [t1,t2,aI]
 rw [show (⟨⟨aP.S.N,aP.S.I,aP.S.L,aP.S.E⟩,aP.M,aP.C⟩:cI)=aP from rfl,show (⟨aR.N,aR.I,aR.L,aR.E⟩:cH)=aR from rfl,s1,aI]
 unfold kB
 simp only [t1,t2,i1,e1,e2,aI,Bool.not_true,Bool.false_eq_true,if_false,bne_self_eq_false]
 unfold gF
 simp only [Bool.false_eq_true,if_false,t1,t2,e3,e4,k1,k2,aI,Bool.not_true,e1,e2,bne_self_eq_false]
 rw [if_neg (by simp only [decide_eq_true_eq];omega)]
 unfold fD
 simp only [Bool.false_eq_true,if_false,m1,m2,m3,m4,aI]
 rw [if_neg (by simp only [decide_eq_true_eq];omega),if_neg (by simp only [decide_eq_true_eq];omega),if_neg (by simp)]
 simp only [t1,t2,i1,aI]
 unfold kA
 simp only [e1,e2,aI,Bool.not_true,Bool.false_eq_true,if_false,bne_self_eq_false]
 unfold gE
 simp only [Bool.false_eq_true,if_false,m2,m4,aI]
 rw [if_neg (by simp only [decide_eq_true_eq];omega),if_neg (by simp only [decide_eq_true_eq];omega),if_neg (by simp)]
end Gv
#print axioms Gv.lawPlant
