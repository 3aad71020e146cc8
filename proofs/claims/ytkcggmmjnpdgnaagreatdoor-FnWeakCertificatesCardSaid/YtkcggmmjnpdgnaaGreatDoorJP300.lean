/- The reference's weak steps are weak steps. -/
import Derived.Test.YtkcggmmjnpdgnaaGreatDoorJP200
set_option linter.all false
set_option linter.unusedSimpArgs false
set_option linter.unusedVariables false
namespace Gv
open Option.some renaming inj→zI
open Go
def Snd (s:Int) (S:Int->Int->Prop) (m:List Bool):Prop:=m.length=(s * s).toNat/\∀ x y,(0<=x/\x < s)->(0<=y/\y < s)->ix m (wr (wr (x * s)+y))=some true->S x y
theorem sq_inj {s x y x' y':Int} (hx:0<=x/\x < s) (hy:0<=y/\y < s) (hx':0<=x'/\x' < s) (hy':0<=y'/\y' < s) (h:x * s+y=x' * s+y'):x=x'/\y=y':=by
 have key:∀ {u v p q:Int},(0<=p/\p < s)->(0<=q/\q < s)->u * s+p=v * s+q->¬ u < v:=by
  intro u v p q hp hq e hlt
  have h1:(u+1) * s<=v * s:=Int.mul_le_mul_of_nonneg_right (by omega) (by omega)
  rw [Int.add_mul,Int.one_mul] at h1
  omega
 have h1:=key hy hy' h
 have h2:=key hy' hy h.symm
 have h3:x=x':=by omega
 subst h3
 exact ⟨rfl,by omega⟩
section
variable {s:Int} {S:Int->Int->Prop}
theorem snd_st {x y:Int} {m:List Bool} {v:Bool} (hs:s<=100) (hm:Snd s S m) (hx:0<=x/\x < s) (hy:0<=y/\y < s) (hv:v=true->S x y):∃ m',st m (wr (wr (x * s)+y)) v=some m'/\Snd s S m':=by
 obtain ⟨m',h1,h2⟩:=sq_st (m:=m) v hs hm.1 hx hy
 refine ⟨m',h1,h2,fun a b ha hb hab=>?_⟩
 rw [sq_wr hs hx hy] at h1
 rw [sq_wr hs ha hb] at hab
 obtain ⟨g1,g2,g3⟩:=aLu hs hx hy
 obtain ⟨k1,k2,k3⟩:=aLu hs ha hb
 unfold Gv.st at h1
 rw [if_pos ⟨by omega,by have:=hm.1;omega⟩] at h1
 have h1:=zI h1
 subst h1
 unfold ix at hab
 rw [if_pos (by omega),List.getElem?_set] at hab
 split at hab
 ·rename_i he
  obtain ⟨rfl,rfl⟩:=sq_inj hx hy ha hb (by omega)
  split at hab
  ·exact hv (zI hab)
  ·cases hab
 ·refine hm.2 a b ha hb ?_
  rw [sq_wr hs ha hb]
  unfold ix
  rw [if_pos (by omega)]
  exact hab
variable (tr:∀ x y z:Int,S x y->S y z->S x z)
include tr
theorem snd_c (hs:0<=s/\s<=100) {x y:Int} (hx:0<=x/\x < s) (hy:0<=y/\y < s) (hyx:S y x):∀ m:List Bool,Snd s S m->∃ m',loop (fun q:List Bool × Int=>iL s x y q.1 q.2) (m,0)=some m'/\Snd s S m':=by
 refine iU hs.1 (fun _ m=>Snd s S m) (fun m=>Snd s S m) (fun m i h0 h1 hm=>?_) (fun m hm=>⟨?_,hm⟩)
 ·show ∃ m',iL s x y m i=_/\_
  unfold iL uT
  obtain ⟨b,hb⟩:=aDM (m:=m) hs.2 hm.1 hx ⟨h0,h1⟩
  obtain ⟨c,hc⟩:=aDM (m:=m) hs.2 hm.1 hy ⟨h0,h1⟩
  rw [if_pos (by simpa using h1),hb,aA,kO h0 h1 (by omega)]
  cases b with
  |true=>
   obtain ⟨m',h2,h3⟩:=snd_st (m:=m) (v:=true) hs.2 hm hy ⟨h0,h1⟩ fun _=>tr _ _ _ hyx (hm.2 x i hx ⟨h0,h1⟩ hb)
   rw [if_pos rfl,hc,aA,h2,aA];exact ⟨m',rfl,h3⟩
  |false=>rw [if_neg (by simp)];exact ⟨m,rfl,hm⟩
 ·show iL s x y m s=_
  unfold iL
  rw [if_neg (by simp)]
theorem snd_a (hs:0<=s/\s<=100) {x:Int} (hx:0<=x/\x < s):∀ m:List Bool,Snd s S m->∃ m',loop (fun q:List Bool × Int=>iM s x q.1 q.2) (m,0)=some m'/\Snd s S m':=by
 refine iU hs.1 (fun _ m=>Snd s S m) (fun m=>Snd s S m) (fun m i h0 h1 hm=>?_) (fun m hm=>⟨?_,hm⟩)
 ·show ∃ m',iM s x m i=_/\_
  unfold iM
  obtain ⟨b,hb⟩:=aDM (m:=m) hs.2 hm.1 ⟨h0,h1⟩ hx
  rw [if_pos (by simpa using h1),hb,aA]
  unfold uS uR
  rw [kO h0 h1 (by omega)]
  cases b with
  |true=>
   obtain ⟨m',h2,h3⟩:=snd_c tr hs hx ⟨h0,h1⟩ (hm.2 i x ⟨h0,h1⟩ hx hb) m hm
   rw [if_neg (by simp),h2,aA];exact ⟨m',rfl,h3⟩
  |false=>rw [if_pos (by simp)];exact ⟨m,rfl,hm⟩
 ·show iM s x m s=_
  unfold iM
  rw [if_neg (by simp)]
theorem snd_b (hs:0<=s/\s<=100):∀ m:List Bool,Snd s S m->∃ m',loop (fun q:List Bool × Int=>iN s q.1 q.2) (m,0)=some m'/\Snd s S m':=by
 refine iU hs.1 (fun _ m=>Snd s S m) (fun m=>Snd s S m) (fun m i h0 h1 hm=>?_) (fun m hm=>⟨?_,hm⟩)
 ·show ∃ m',iN s m i=_/\_
  unfold iN
  obtain ⟨m',h2,h3⟩:=snd_a tr hs ⟨h0,h1⟩ m hm
  rw [if_pos (by simpa using h1),h2,aA]
  unfold uQ yY
  rw [kO h0 h1 (by omega)]
  exact ⟨m',rfl,h3⟩
 ·show iN s m s=_
  unfold iN
  rw [if_neg (by simp)]
theorem close_snd (rf:∀ x,S x x) (hs:0<=s/\s<=100) (m:List Bool) (hm:Snd s S m):∃ m',aAs s m=some m'/\Snd s S m':=by
 obtain ⟨m1,h1,h2⟩:=iU (step:=fun q:List Bool × Int=>gS s q.1 q.2) hs.1 (fun _ m=>Snd s S m) (fun m=>Snd s S m) (fun m i h0 h1 hm=>by
  show ∃ m',gS s m i=_/\_
  unfold gS
  obtain ⟨b,hb⟩:=aDM (m:=m) hs.2 hm.1 ⟨h0,h1⟩ ⟨h0,h1⟩
  obtain ⟨m',h2,h3⟩:=snd_st (m:=m) (v:=true) hs.2 hm ⟨h0,h1⟩ ⟨h0,h1⟩ fun _=>rf i
  rw [if_pos (by simpa using h1),hb,aA,h2,aA,kO h0 h1 (by omega)]
  exact ⟨m',rfl,h3⟩) (fun m hm=>⟨by
  show gS s m s=_
  unfold gS
  rw [if_neg (by simp)],hm⟩) m hm
 obtain ⟨m2,h3,h4⟩:=snd_b tr hs m1 h2
 unfold aAs
 rw [h1,aA]
 unfold sM
 rw [h3,aA]
 exact ⟨m2,rfl,h4⟩
end
def Tau (t:cB) (x y:Int):Prop:=Cl t (·∈[x]) y
theorem Tau.refl (t:cB) (x:Int):Tau t x x:=.base (by simp)
theorem Tau.trans {t:cB} {x y z:Int} (h:Tau t x y) (g:Tau t y z):Tau t x z:=by
 induction g with
 |base h'=>simp at h';subst h';exact h
 |step he hl _ ih=>exact .step he hl ih
section
variable {t:cB}
theorem aMD (h:cN t):∃ m,tO t=some m/\Snd t.N (Tau t) m:=by
 have h1:=h.1
 have h3:=h.2.2.2.1
 have hq:=aLu (s:=t.N) (x:=t.N - 1) (y:=0) (by omega) (by omega) (by omega)
 have hsq:0<=t.N * t.N/\t.N * t.N<=1600:=⟨Int.mul_nonneg (by omega) (by omega),Int.le_trans (Int.mul_le_mul (show t.N<=40 by omega) (show t.N<=40 by omega) (by omega) (by omega)) (by decide)⟩
 have hm:mkz (wr (t.N * t.N)) false=some (List.replicate (t.N * t.N).toNat false):=by
  rw [dP (by omega) (by omega)]
  unfold mkz
  rw [if_pos ⟨by omega,by unfold kP;omega⟩]
 unfold tO
 rw [hm,aA]
 obtain ⟨m1,e1,e2⟩:=iU (step:=fun q:List Bool × Int=>iO t q.1 q.2) (n:=(t.E.length:Int)) (by omega) (fun _ m=>Snd t.N (Tau t) m) (fun m=>Snd t.N (Tau t) m) (fun m i h0 h1' hm=>by
  show ∃ m',iO t m i=_/\_
  have hi:i.toNat < t.E.length:=by omega
  have hb:=vD h (List.getElem_mem hi)
  unfold lU at hb
  obtain ⟨b,hb'⟩:=aDM (m:=m) (s:=t.N) (by omega) hm.1 hb.1 hb.2.1
  have he:ix t.E i=some t.E[i.toNat]:=by unfold ix;rw [if_pos h0,List.getElem?_eq_getElem hi]
  unfold iO uV
  rw [if_pos (by simpa using h1'),he,aA,kO h0 h1' (by omega)]
  split
  ·rename_i hl
   obtain ⟨m',g2,g3⟩:=snd_st (m:=m) (s:=t.N) (S:=Tau t) (v:=true) (by omega) hm hb.1 hb.2.1 fun _=>.step (List.getElem_mem hi) (by simpa using hl) (Tau.refl t _)
   rw [hb',aA,g2,aA]
   exact ⟨m',rfl,g3⟩
  ·exact ⟨m,rfl,hm⟩) (fun m hm=>⟨by
  show iO t m (t.E.length:Int)=_
  unfold iO
  rw [if_neg (by simp)],hm⟩) (List.replicate (t.N * t.N).toNat false) ⟨by simp,fun x y hx hy e=>by
   unfold ix at e
   split at e
   ·rw [List.getElem?_replicate] at e;split at e
    ·cases e
    ·cases e
   ·cases e⟩
 rw [e1,aA]
 unfold uU
 obtain ⟨m2,e3,e4⟩:=close_snd (s:=t.N) (S:=Tau t) (fun _ _ _ h g=>Tau.trans h g) (Tau.refl t) (by omega) m1 e2
 rw [e3,aA]
 exact ⟨m2,rfl,e4⟩
def SndR (n:Int) (R:Int->Prop) (m:List Bool):Prop:=m.length=n.toNat/\∀ y,(0<=y/\y < n)->ix m y=some true->R y
theorem sndR_st {n:Int} {R:Int->Prop} {y:Int} {m:List Bool} {v:Bool} (hm:SndR n R m) (hy:0<=y/\y < n) (hv:v=true->R y):∃ m',st m y v=some m'/\SndR n R m':=by
 obtain ⟨m',h1,h2⟩:=ln_st (m:=m) v hm.1 hy
 refine ⟨m',h1,h2,fun b hb hab=>?_⟩
 unfold Gv.st at h1
 rw [if_pos ⟨hy.1,by have:=hm.1;omega⟩] at h1
 have h1:=zI h1
 subst h1
 unfold ix at hab
 rw [if_pos hb.1,List.getElem?_set] at hab
 split at hab
 ·rename_i he
  have:y=b:=by omega
  subst this
  split at hab
  ·exact hv (zI hab)
  ·cases hab
 ·refine hm.2 b hb ?_
  unfold ix
  rw [if_pos hb.1]
  exact hab
def aKl (t:cB) (k l w:Int):Prop:=if l=0 then Tau t k w else ∃ e∈t.E,e.B=l/\Tau t k e.F/\Tau t e.To w
theorem step_snd (h:cN t) {still:List Bool} (hst:Snd t.N (Tau t) still) {k:Int} (hk:lU t k) (l:Int):∃ m,aAK t still k l=some m/\SndR t.N (aKl t k l) m:=by
 have h1:=h.1
 have h3:=h.2.2.2.1
 have hk':=hk
 unfold lU at hk'
 have hm:mkz t.N false=some (List.replicate t.N.toNat false):=by
  unfold mkz
  rw [if_pos ⟨by omega,by unfold kP;omega⟩]
 have h00:SndR t.N (aKl t k l) (List.replicate t.N.toNat false):=⟨by simp,fun y hy e=>by
  unfold ix at e
  rw [if_pos hy.1,List.getElem?_replicate] at e;split at e
  ·cases e
  ·cases e⟩
 unfold aAK
 rw [hm,aA]
 split
 ·rename_i hl
  have hl:l=0:=by simpa using hl
  obtain ⟨m1,e1,e2⟩:=iU (step:=fun q:List Bool × Int=>jF t still k q.1 q.2) (n:=t.N) (by omega) (fun _ m=>SndR t.N (aKl t k l) m) (fun m=>SndR t.N (aKl t k l) m) (fun m i h0 h1' hm=>by
   show ∃ m',jF t still k m i=_/\_
   obtain ⟨b,hb⟩:=aDM (m:=still) (s:=t.N) (by omega) hst.1 hk' ⟨h0,h1'⟩
   obtain ⟨x,hx⟩:=aIt (m:=m) hm.1 ⟨h0,h1'⟩
   obtain ⟨m',g2,g3⟩:=sndR_st (m:=m) (v:=b) hm ⟨h0,h1'⟩ fun e=>by
    subst e
    unfold aKl
    rw [if_pos hl]
    exact hst.2 k i hk' ⟨h0,h1'⟩ hb
   unfold jF
   rw [if_pos (by simpa using h1'),hb,aA,hx,aA,g2,aA,kO h0 h1' (by omega)]
   exact ⟨m',rfl,g3⟩) (fun m hm=>⟨by
   show jF t still k m t.N=_
   unfold jF
   rw [if_neg (by simp)],hm⟩) (List.replicate t.N.toNat false) h00
  rw [e1,aA]
  exact ⟨m1,rfl,e2⟩
 ·rename_i hl
  have hl:¬ l=0:=by simpa using hl
  obtain ⟨m1,e1,e2⟩:=iU (step:=fun q:List Bool × Int=>jH t still k l q.1 q.2) (n:=(t.E.length:Int)) (by omega) (fun _ m=>SndR t.N (aKl t k l) m) (fun m=>SndR t.N (aKl t k l) m) (fun m i h0 h1' hm=>by
   show ∃ m',jH t still k l m i=_/\_
   have hi:i.toNat < t.E.length:=by omega
   have hb:=vD h (List.getElem_mem hi)
   unfold lU at hb
   have he:ix t.E i=some t.E[i.toNat]:=by unfold ix;rw [if_pos h0,List.getElem?_eq_getElem hi]
   obtain ⟨b,hb'⟩:=aDM (m:=still) (s:=t.N) (by omega) hst.1 hk' hb.1
   have hj4:∀ m':List Bool,qP i m'=some (.inl (m',i+1)):=fun m'=>by unfold qP;rw [kO h0 h1' (by omega)]
   unfold jH
   rw [if_pos (by simpa using h1'),he,aA,hb',aA]
   split
   ·unfold qQ
    rw [if_pos rfl,hj4];exact ⟨m,rfl,hm⟩
   ·rename_i hel
    have hel:t.E[i.toNat].B=l:=by simpa using hel
    unfold qQ
    cases b with
    |false=>rw [if_pos (by simp),hj4];exact ⟨m,rfl,hm⟩
    |true=>
     rw [if_neg (by simp)]
     obtain ⟨m2,e3,e4⟩:=iU (step:=fun q:List Bool × Int=>jG t still t.E[i.toNat] q.1 q.2) (n:=t.N) (by omega) (fun _ m=>SndR t.N (aKl t k l) m) (fun m=>SndR t.N (aKl t k l) m) (fun m j h0 h1' hm=>by
      show ∃ m',jG t still t.E[i.toNat] m j=_/\_
      obtain ⟨b,hb2⟩:=aDM (m:=still) (s:=t.N) (by omega) hst.1 hb.2.1 ⟨h0,h1'⟩
      obtain ⟨x,hx⟩:=aIt (m:=m) hm.1 ⟨h0,h1'⟩
      unfold jG xO
      rw [if_pos (by simpa using h1'),hb2,aA,kO h0 h1' (by omega)]
      cases b with
      |true=>
       obtain ⟨m',g2,g3⟩:=sndR_st (m:=m) (v:=true) hm ⟨h0,h1'⟩ fun _=>by
        unfold aKl
        rw [if_neg hl]
        exact ⟨_,List.getElem_mem hi,hel,hst.2 k _ hk' hb.1 hb',hst.2 _ j hb.2.1 ⟨h0,h1'⟩ hb2⟩
       rw [if_pos rfl,hx,aA,g2,aA];exact ⟨m',rfl,g3⟩
      |false=>rw [if_neg (by simp)];exact ⟨m,rfl,hm⟩) (fun m hm=>⟨by
      show jG t still t.E[i.toNat] m t.N=_
      unfold jG
      rw [if_neg (by simp)],hm⟩) m hm
     rw [e3,aA]
     unfold xN
     rw [hj4]
     exact ⟨m2,rfl,e4⟩) (fun m hm=>⟨by
   show jH t still k l m (t.E.length:Int)=_
   unfold jH
   rw [if_neg (by simp)],hm⟩) (List.replicate t.N.toNat false) h00
  rw [e1,aA]
  exact ⟨m1,rfl,e2⟩
theorem stpI_wk (hv:cN t) {k w:Int} {n:Nat} (hn:n < t.L.length) (h:aKl t k (n:Int) w):Wk t k t.L[n] w:=by
 obtain ⟨h0,h1⟩:=aNj hv
 unfold aKl at h
 unfold Wk
 by_cases e:n=0
 ·subst e
  rw [if_pos (by simp)] at h
  rw [if_pos h1]
  exact h
 ·rw [if_neg (by omega)] at h
  obtain ⟨d,hd,hl,ha,hb⟩:=h
  have ht:txt t d=t.L[n]:=by
   unfold txt
   rw [hl,Int.toNat_natCast,List.getD_eq_getElem?_getD,List.getElem?_eq_getElem hn];rfl
  have hne:¬ t.L[n]=dV:=fun e'=>by
   have:=(aNo hv hd).1 (ht.trans e')
   omega
  rw [if_neg hne]
  have:Cl t (fun q=>∃ e∈t.E,txt t e=t.L[n]/\Cl t (·∈[k]) e.F/\e.To=q) d.To:=.base ⟨d,hd,ht,ha,rfl⟩
  have gen:∀ z,Tau t d.To z->Cl t (fun q=>∃ e∈t.E,txt t e=t.L[n]/\Cl t (·∈[k]) e.F/\e.To=q) z:=fun z hz=>by
   unfold Tau at hz
   induction hz with
   |base h'=>simp at h';subst h';exact this
   |step he hl _ ih=>exact .step he hl ih
  exact gen w hb
end
end Gv
set_option linter.unusedSimpArgs false
set_option linter.unusedVariables false
namespace Gv
open Go
def aBM (a b:cB) (R:Int->Int->Prop) (x y:Int):Prop:=∀ e∈a.E,e.F=x->∃ w,Wk b y (txt a e) w/\R e.To w
def WAcc (a b:cB) (l:List (Int × Int)):Prop:=aJL a b l/\ini2 a b∈l/\∀ p∈l,aBM a b (fun u v=>(u,v)∈l) p.1 p.2/\aBM b a (fun v u=>(u,v)∈l) p.2 p.1
theorem aJN {β:Type} (xs:List β) (p:β->Bool):(match xs.findIdx? p with|none=>decide ((0:Int)<=-1)|some i=>decide ((0:Int)<=(i:Int)))=xs.any p:=by
 rw [←aKY]
 cases xs.findIdx? p with
 |none=>rfl
 |some i=>simp
section
variable {a b:cB} {l:List (Int × Int)}
theorem has_c1 (u v:Int):xV u v (mtt l)=some (decide ((u,v)∈l)):=by
 unfold xV
 rw [show (aGz (mtt l) (⟨u,v⟩:Int × Int)).getD false=decide ((u,v)∈l) from aOv (u,v) l]
theorem cont2 (xs:List Int) (hx:xs.length < 1000000) (v:Int):eE xs a.N a.I a.L a.E b.N b.I b.L b.E (mtt l) v=some (xs.any fun w=>decide ((v,w)∈l)):=by
 unfold eE fZ
 rw [yC (step:=fun s=>dG xs a.N a.I a.L a.E b.N b.I b.L b.E (mtt l) v s) xs (fun w=>decide ((v,w)∈l)) (fun k w hk hw=>by
  show dG xs a.N a.I a.L a.E b.N b.I b.L b.E (mtt l) v (k:Int)=_
  unfold dG aDX
  rw [if_pos (dJ hk),hw,aA,has_c1,aA,aA,cS hk (by omega)]) (by
  show dG xs a.N a.I a.L a.E b.N b.I b.L b.E (mtt l) v (xs.length:Int)=_
  unfold dG
  rw [if_neg (by simp)]),aA,←aJN]
 cases xs.findIdx? (fun w=>decide ((v,w)∈l))<;>rfl
theorem cont3 (xs:List Int) (hx:xs.length < 1000000) (v:Int):eF xs b.N b.I b.L b.E a.N a.I a.L a.E a.N a.I a.L a.E b.N b.I b.L b.E (mtt l) v=some (xs.any fun w=>decide ((w,v)∈l)):=by
 unfold eF gA
 rw [yC (step:=fun s=>dH xs b.N b.I b.L b.E a.N a.I a.L a.E a.N a.I a.L a.E b.N b.I b.L b.E (mtt l) v s) xs (fun w=>decide ((w,v)∈l)) (fun k w hk hw=>by
  show dH xs b.N b.I b.L b.E a.N a.I a.L a.E a.N a.I a.L a.E b.N b.I b.L b.E (mtt l) v (k:Int)=_
  unfold dH aAe qX
  rw [if_pos (dJ hk),hw,aA,has_c1,aA,aA,aA,cS hk (by omega)]) (by
  show dH xs b.N b.I b.L b.E a.N a.I a.L a.E a.N a.I a.L a.E b.N b.I b.L b.E (mtt l) v (xs.length:Int)=_
  unfold dH
  rw [if_neg (by simp)]),aA,←aJN]
 cases xs.findIdx? (fun w=>decide ((w,v)∈l))<;>rfl
theorem wkl_len {t:cB} (hv:cN t) {y:Int} (hy:lU t y) {s:aY} {R:List Int} (h:zV R (Wk t y s)):R.length<=40:=by
 have:=hv.1
 exact h.len (n:=40) fun q hq=>by have:=hq.inn hv hy;unfold lU at this;omega
theorem way2 (hb:cN b) {x y:Int} (hy:lU b y) (s:aY) (v:Int):xW a b (mtt l) x y s v=some (cl (∃ w,Wk b y s w/\(v,w)∈l)):=by
 obtain ⟨R,h1,h2⟩:=aLq hb hy s
 unfold xW
 rw [h1,aA,cont2 R (by have:=wkl_len hb hy h2;omega),aA]
 congr 1
 rw [eq_comm]
 refine aEU ?_
 rw [List.any_eq_true]
 exact ⟨fun ⟨w,h3,h4⟩=>⟨w,(h2.mem w).1 h3,by simpa using h4⟩,fun ⟨w,h3,h4⟩=>⟨w,(h2.mem w).2 h3,by simpa using h4⟩⟩
theorem way3 (ha:cN a) {x y:Int} (hy:lU a y) (s:aY) (v:Int):xX b a a.N a.I a.L a.E b.N b.I b.L b.E (mtt l) x y s v=some (cl (∃ w,Wk a y s w/\(w,v)∈l)):=by
 obtain ⟨R,h1,h2⟩:=aLq ha hy s
 unfold xX
 rw [h1,aA,cont3 R (by have:=wkl_len ha hy h2;omega),aA]
 congr 1
 rw [eq_comm]
 refine aEU ?_
 rw [List.any_eq_true]
 exact ⟨fun ⟨w,h3,h4⟩=>⟨w,(h2.mem w).1 h3,by simpa using h4⟩,fun ⟨w,h3,h4⟩=>⟨w,(h2.mem w).2 h3,by simpa using h4⟩⟩
theorem aNt {t:cB} (ht:cN t) {e:Edge} (he:e∈t.E):ix t.L e.B=some (txt t e):=by
 obtain ⟨_,_,h1,h2⟩:=aIM ht he
 unfold ix txt
 rw [if_pos h1,List.getD_eq_getElem?_getD,List.getElem?_eq_getElem (by omega)]
 rfl
theorem out_cl {t:cB} {x:Int} (P:Edge->Prop):((t.E.filter fun e=>e.F == x).all fun e=>cl (P e))=cl (∀ e∈t.E,e.F=x->P e):=by
 rw [eq_comm]
 refine aEU ?_
 rw [List.all_eq_true]
 constructor
 ·intro h e he hx
  exact vC.1 (h e (List.mem_filter.2 ⟨he,by simpa using hx⟩))
 ·intro h e he
  obtain ⟨h1,h2⟩:=List.mem_filter.1 he
  exact aAx (h e h1 (by simpa using h2))
theorem ans1 (ha:cN a) (hb:cN b) {x y:Int} (hy:lU b y):lF a b (mtt l) x y=some (cl (aBM a b (fun u v=>(u,v)∈l) x y)):=by
 have he:a.E.length < 1000000:=by have:=ha.2.2.2.1;omega
 unfold lF
 rw [out_eq a x (by omega),aA]
 have hlen:(a.E.filter fun e=>e.F == x).length < 1000000:=Nat.lt_of_le_of_lt (List.length_filter_le _ _) he
 rw [aGt (step:=fun s=>gO a b (mtt l) x y (a.E.filter fun e=>e.F == x) s) (a.E.filter fun e=>e.F == x) (fun e=>cl (∃ w,Wk b y (txt a e) w/\(e.To,w)∈l)) (.inr false) (.inl ()) (fun k e hk hx=>by
  show gO a b (mtt l) x y (a.E.filter fun e=>e.F == x) (k:Int)=_
  obtain ⟨hk',rfl⟩:=wZ hx
  have hm:=(List.mem_filter.1 (List.getElem_mem hk')).1
  unfold gO
  rw [if_pos (dJ hk),hx,aA,aNt ha hm,aA,show xW ⟨a.N,a.I,a.L,a.E⟩ ⟨b.N,b.I,b.L,b.E⟩ (mtt l) x y _ _=_ from way2 hb hy _ _,aA,cS hk (by omega)]
  cases cl (∃ w,Wk b y (txt a (a.E.filter fun e=>e.F == x)[k]) w/\((a.E.filter fun e=>e.F == x)[k].To,w)∈l)<;>rfl) (by
  show gO a b (mtt l) x y (a.E.filter fun e=>e.F == x) ((a.E.filter fun e=>e.F == x).length:Int)=_
  unfold gO
  rw [if_neg (by simp)]),aA]
 rw [out_cl (t:=a) (x:=x) (fun e=>∃ w,Wk b y (txt a e) w/\(e.To,w)∈l)]
 have:(∀ e∈a.E,e.F=x->∃ w,Wk b y (txt a e) w/\(e.To,w)∈l)=aBM a b (fun u v=>(u,v)∈l) x y:=rfl
 rw [this]
 cases cl (aBM a b (fun u v=>(u,v)∈l) x y)<;>rfl
theorem ans2 (ha:cN a) (hb:cN b) {x y:Int} (hy:lU a y):iS b a a.N a.I a.L a.E b.N b.I b.L b.E (mtt l) x y=some (cl (aBM b a (fun v u=>(u,v)∈l) x y)):=by
 have he:b.E.length < 1000000:=by have:=hb.2.2.2.1;omega
 unfold iS
 rw [out_eq b x (by omega),aA]
 have hlen:(b.E.filter fun e=>e.F == x).length < 1000000:=Nat.lt_of_le_of_lt (List.length_filter_le _ _) he
 rw [aGt (step:=fun s=>fP b a a.N a.I a.L a.E b.N b.I b.L b.E (mtt l) x y (b.E.filter fun e=>e.F == x) s) (b.E.filter fun e=>e.F == x) (fun e=>cl (∃ w,Wk a y (txt b e) w/\(w,e.To)∈l)) (.inr false) (.inl ()) (fun k e hk hx=>by
  show fP b a a.N a.I a.L a.E b.N b.I b.L b.E (mtt l) x y (b.E.filter fun e=>e.F == x) (k:Int)=_
  obtain ⟨hk',rfl⟩:=wZ hx
  have hm:=(List.mem_filter.1 (List.getElem_mem hk')).1
  unfold fP
  rw [if_pos (dJ hk),hx,aA,aNt hb hm,aA,show xX ⟨b.N,b.I,b.L,b.E⟩ ⟨a.N,a.I,a.L,a.E⟩ a.N a.I a.L a.E b.N b.I b.L b.E (mtt l) x y _ _=_ from way3 ha hy _ _,aA,cS hk (by omega)]
  cases cl (∃ w,Wk a y (txt b (b.E.filter fun e=>e.F == x)[k]) w/\(w,(b.E.filter fun e=>e.F == x)[k].To)∈l)<;>rfl) (by
  show fP b a a.N a.I a.L a.E b.N b.I b.L b.E (mtt l) x y (b.E.filter fun e=>e.F == x) ((b.E.filter fun e=>e.F == x).length:Int)=_
  unfold fP
  rw [if_neg (by simp)]),aA]
 rw [out_cl (t:=b) (x:=x) (fun e=>∃ w,Wk a y (txt b e) w/\(w,e.To)∈l)]
 have:(∀ e∈b.E,e.F=x->∃ w,Wk a y (txt b e) w/\(w,e.To)∈l)=aBM b a (fun v u=>(u,v)∈l) x y:=rfl
 rw [this]
 cases cl (aBM b a (fun v u=>(u,v)∈l) x y)<;>rfl
theorem holdsW_eq (ha:cN a) (hb:cN b) (hl:aJL a b l):tA a b (mtt l)=some (cl (∀ p∈l,aBM a b (fun u v=>(u,v)∈l) p.1 p.2/\aBM b a (fun v u=>(u,v)∈l) p.2 p.1),mtt l):=by
 unfold tA
 rw [aOu,mfil_eq (p:=fun p:Int × Int=>cl (aBM a b (fun u v=>(u,v)∈l) p.1 p.2/\aBM b a (fun v u=>(u,v)∈l) p.2 p.1)) fun k hk=>?_,aA]
 ·by_cases hall:∀ p∈l,aBM a b (fun u v=>(u,v)∈l) p.1 p.2/\aBM b a (fun v u=>(u,v)∈l) p.2 p.1
  ·rw [if_pos,aAx hall]
   ·rfl
   ·rw [decide_eq_true_iff,List.length_filter_eq_length_iff]
    intro p hp
    exact aAx (hall p hp)
  ·rw [if_neg,tH hall]
   rw [decide_eq_true_iff,List.length_filter_eq_length_iff]
   intro h
   exact hall fun p hp=>vC.1 (h p hp)
 ·unfold nY qW
  rw [show lF ⟨a.N,a.I,a.L,a.E⟩ ⟨b.N,b.I,b.L,b.E⟩ (mtt l) k.1 k.2=_ from ans1 ha hb (hl.2 k hk).2,aA,aA,show iS ⟨b.N,b.I,b.L,b.E⟩ ⟨a.N,a.I,a.L,a.E⟩ a.N a.I a.L a.E b.N b.I b.L b.E (mtt l) k.2 k.1=_ from ans2 ha hb (hl.2 k hk).1,aA]
  have:cl (aBM a b (fun u v=>(u,v)∈l) k.1 k.2/\aBM b a (fun v u=>(u,v)∈l) k.2 k.1)=(cl (aBM a b (fun u v=>(u,v)∈l) k.1 k.2)&&cl (aBM b a (fun v u=>(u,v)∈l) k.2 k.1)):=by
   refine aEU ?_
   rw [Bool.and_eq_true,vC,vC]
  rw [this]
  cases cl (aBM a b (fun u v=>(u,v)∈l) k.1 k.2)<;>cases cl (aBM b a (fun v u=>(u,v)∈l) k.2 k.1)<;>rfl
end
end Gv
set_option linter.unusedSimpArgs false
set_option linter.unusedVariables false
namespace Gv
open Option.some renaming inj→zI
open Go
section
variable {a b:cB} {l:List (Int × Int)}
theorem R2_eq {p q:Int × Int}:R2 p=R2 q<->p=q:=by
 constructor
 ·intro h
  have h':[p.1,p.2]=[q.1,q.2]:=h
  simp only [List.cons.injEq,and_true] at h'
  exact Prod.ext h'.1 h'.2
 ·intro h;rw [h]
theorem contR (l:List (Int × Int)) (hl:l.length < 1000000):dF (l.map R2) a b=some (decide (ini2 a b∈l)):=by
 unfold dF eO
 rw [yC (step:=fun s=>bZ (l.map R2) a b s) (l.map R2) (fun x=>decide (x=R2 (ini2 a b))) (fun k x hk hx=>by
  show bZ (l.map R2) a b (k:Int)=_
  have hx2:x.length=2:=by
   obtain ⟨hk',rfl⟩:=wZ hx
   rw [List.getElem_map];rfl
  unfold bZ sZ
  rw [if_pos (dJ hk),hx,aA,aMr _ _ (by omega),aA,aA,cS hk (by simp at hk ⊢;omega)]
  rfl) (by
  show bZ (l.map R2) a b ((l.map R2).length:Int)=_
  unfold bZ
  rw [if_neg (by simp)]),aA]
 have h1:=aJN (l.map R2) (fun x=>decide (x=R2 (ini2 a b)))
 have h2:(l.map R2).any (fun x=>decide (x=R2 (ini2 a b)))=decide (ini2 a b∈l):=by
  rw [Bool.eq_iff_iff,List.any_eq_true,decide_eq_true_iff]
  constructor
  ·rintro ⟨x,hx,hd⟩
   rw [decide_eq_true_iff] at hd
   obtain ⟨p,hp,rfl⟩:=List.mem_map.1 hx
   rw [R2_eq] at hd
   subst hd;exact hp
  ·intro h
   exact ⟨_,List.mem_map_of_mem h,by simp⟩
 rw [←h2,←h1]
 cases (l.map R2).findIdx? (fun x=>decide (x=R2 (ini2 a b)))<;>rfl
theorem IsWeak_eq (ha:cN a) (hb:cN b) (fa:lE 999999999 a) (fb:lE 999999999 b) (r:List (List Int)) (hr:r.length < 1000000) (hr2:∀ x∈r,x.length < 1000000):
  ∃ c,tP a b r=some c/\(c=true<->∃ l,r=l.map R2/\WAcc a b l):=by
 obtain ⟨R,h1,h2,h3,h4⟩:=aPC ha hb r (by omega)
 unfold tP uY
 rw [aAR a fa,aAx ha,aA,if_neg (by simp),aAR b fb,aAx hb,aA]
 unfold tB aHZ
 rw [if_neg (by simp),h1,aA]
 have hcon:∃ d,dF r a b=some d:=by
  unfold dF eO
  rw [yC (step:=fun s=>bZ r a b s) r (fun x=>decide (x=R2 (ini2 a b))) (fun k x hk hx=>by
   show bZ r a b (k:Int)=_
   have hx2:x.length < 1000000:=by
    obtain ⟨hk',rfl⟩:=wZ hx
    exact hr2 _ (List.getElem_mem hk')
   unfold bZ sZ
   rw [if_pos (dJ hk),hx,aA,aMr _ _ (by omega),aA,aA,cS hk (by omega)]
   rfl) (by
   show bZ r a b (r.length:Int)=_
   unfold bZ
   rw [if_neg (by simp)]),aA]
  cases r.findIdx? (fun x=>decide (x=R2 (ini2 a b)))<;>exact ⟨_,rfl⟩
 rcases h2 with h2|h2
 ·obtain ⟨d,hd⟩:=hcon
  have hno:¬ ∃ l,r=l.map R2/\WAcc a b l:=fun ⟨l,e,hl⟩=>by
   have:=h3.2 ⟨l,hl.1,e⟩
   rw [h2] at this;cases this
  rw [hd,aA,h2]
  refine ⟨false,?_,⟨fun e=>(by cases e),fun e=>absurd e hno⟩⟩
  cases d<;>rfl
 ·obtain ⟨l,hl,e⟩:=h3.1 h2
  have hR:=h4 l hl e
  subst hR
  have inj:∀ {m:List (Int × Int)},r=m.map R2->aJL a b m->m=l:=fun {m} hm hr'=>by
   have:=h4 m hr' hm
   have h5:=congrArg (fun x:List ((Int × Int) × Bool) × Bool=>List.map Prod.fst x.1) this
   simp only [aOu] at h5
   exact h5.symm
  rw [if_pos rfl,holdsW_eq ha hb hl,aA,e,contR l (by rw [e,List.length_map] at hr;exact hr),aA]
  by_cases hin:ini2 a b∈l
  ·rw [if_pos (by simpa using hin),aA]
   refine ⟨_,rfl,?_⟩
   rw [vC]
   exact ⟨fun h=>⟨l,rfl,hl,hin,h⟩,fun ⟨m,hm,hA⟩=>by
    have:=inj (e.trans hm) hA.1
    subst this
    exact hA.2.2⟩
  ·rw [if_neg (by simpa using hin)]
   refine ⟨false,rfl,⟨fun h=>(by cases h),fun ⟨m,hm,hA⟩=>?_⟩⟩
   have:=inj (e.trans hm) hA.1
   subst this
   exact absurd hA.2.1 hin
theorem has13 (l:List (Int × Int)) (hl:l.length < 1000000) (x y:Int):tQ (l.map R2) x y=some (decide ((x,y)∈l)):=by
 unfold tQ
 rw [aGt (step:=fun s=>nS (l.map R2) x y s) l (fun p=>!decide (p=(x,y))) (.inr true) (.inl ()) (fun k p hk hp=>by
  show nS (l.map R2) x y (k:Int)=_
  have hk2:k < (l.map R2).length:=by rw [List.length_map];exact hk
  have hx:ix (l.map R2) (k:Int)=some (R2 p):=by
   obtain ⟨hk',rfl⟩:=wZ hp
   rw [cU hk2,List.getElem_map]
  unfold nS
  rw [if_pos (dJ hk2),hx,aA,show ix (R2 p) 0=some p.1 from rfl,aA,show ix (R2 p) 1=some p.2 from rfl,aA]
  unfold uF
  rw [cS hk (by omega)]
  by_cases h1:p.1=x
  ·rw [if_pos (by simpa using h1)]
   by_cases h2:p.2=y
   ·rw [if_pos (by simpa using h2),if_neg]
    simp [←h1,←h2]
   ·rw [if_neg (by simpa using h2),if_pos]
    simp only [Bool.not_eq_true',decide_eq_false_iff_not]
    intro e;subst e;exact h2 rfl
  ·rw [if_neg (by simpa using h1),if_neg (by simp),if_pos]
   simp only [Bool.not_eq_true',decide_eq_false_iff_not]
   intro e;subst e;exact h1 rfl) (by
  show nS (l.map R2) x y (l.length:Int)=_
  unfold nS
  rw [if_neg (by simp)]),aA]
 have:l.all (fun p=>!decide (p=(x,y)))=!decide ((x,y)∈l):=by
  rw [Bool.eq_iff_iff,List.all_eq_true]
  simp only [Bool.not_eq_true',decide_eq_false_iff_not]
  exact ⟨fun h e=>h _ e rfl,fun h p hp e=>h (e ▸ hp)⟩
 rw [this]
 by_cases h:(x,y)∈l
 ·rw [if_neg (by simp [h])];simp [h]
 ·rw [if_pos (by simp [h])];simp [h];rfl
def RowAt (a b:cB) (r:List (List Int)) (k:Nat):Prop:=(∃ p,r[k]?=some (R2 p)/\lU a p.1/\lU b p.2)/\(1<=k->∀ x y v,r[k - 1]?=some x->r[k]?=some y->qY x y=some v->v < 0)
theorem aLx {r:List (List Int)} (h:∀ k,k < r.length->RowAt a b r k):∀ k,k<=r.length->∃ l,aJL a b l/\r.take k=l.map R2
 |0,_=>⟨[],⟨List.Pairwise.nil,fun p hp=>by cases hp⟩,by simp⟩
 |k+1,hk=>by
  obtain ⟨l,hl,e⟩:=aLx h k (by omega)
  obtain ⟨⟨p,hp,hi⟩,hc⟩:=h k (by omega)
  have hll:l.length=k:=by
   have:=congrArg List.length e
   rw [List.length_take,List.length_map] at this;omega
  refine ⟨l++[p],⟨?_,?_⟩,?_⟩
  ·rw [List.pairwise_append]
   refine ⟨hl.1,by simp,fun q hq s hs=>?_⟩
   rw [List.mem_singleton] at hs
   subst hs
   by_cases hk0:k=0
   ·have:l=[]:=List.length_eq_zero_iff.1 (by omega)
    subst this;cases hq
   ·have hlast:r[k - 1]?=some (R2 (l[k - 1]'(by omega))):=by
     have h3:(r.take k)[k - 1]?=(l.map R2)[k - 1]?:=by rw [e]
     rw [List.getElem?_take_of_lt (by omega),List.getElem?_map,List.getElem?_eq_getElem (show k - 1 < l.length by omega)] at h3
     exact h3
    have hv:=hc (by omega) _ _ _ hlast hp (aLM _ _)
    have hlt:qLt (l[k - 1]'(by omega)) s=true:=by
     rw [←aKu];unfold rowLt
     simpa using hv
    obtain ⟨i,hi',rfl⟩:=List.mem_iff_getElem.1 hq
    by_cases e2:i=k - 1
    ·subst e2;exact hlt
    ·exact qLt_tr (List.pairwise_iff_getElem.1 hl.1 i (k - 1) hi' (by omega) (by omega)) hlt
  ·intro q hq
   rcases List.mem_append.1 hq with h'|h'
   ·exact hl.2 q h'
   ·rw [List.mem_singleton] at h';subst h';exact hi
  ·rw [List.take_add_one,hp,e,List.map_append];rfl
theorem pairs13 (ha:cN a) (hb:cN b) (r:List (List Int)) (hr:r.length < 1000000) (hr2:∀ x∈r,x.length < 1000000):∃ c,aEF r a.N b.N=some c/\(c=true->∃ l,aJL a b l/\r=l.map R2):=by
 have h1:=ha.1
 have h2:=hb.1
 unfold aEF
 have:=aGv (step:=fun s=>rQ r a.N b.N s) r.length 0 (RowAt a b r) (.inr false) (.inl ()) (by omega) (fun k _ hk=>by
  show rQ r a.N b.N (k:Int)=_
  have hrk:r[k]?=some r[k]:=List.getElem?_eq_getElem hk
  have hout:oJ r (k:Int) true=some (.inr (.inr false)):=by unfold oJ;rw [if_pos rfl]
  unfold rQ
  rw [if_pos (dJ hk),cU hk,aA]
  by_cases hlen:r[k].length=2
  ·obtain ⟨p,hp⟩:=len2 hlen
   rw [hp,if_neg (by simp [R2]),show ix (R2 p) 0=some p.1 from rfl,aA,aGu,aA,dP (by omega) (by omega)]
   by_cases hx:lU a p.1
   ·have hx':=hx
    unfold lU at hx'
    rw [if_neg (by simp;omega),show ix (R2 p) 1=some p.2 from rfl,aA,aGu,aA,dP (by omega) (by omega)]
    by_cases hy:lU b p.2
    ·have hy':=hy
     unfold lU at hy'
     have hb':(decide (0<=p.2)&&decide (p.2<=b.N - 1))=true:=by simp;omega
     rw [hb']
     unfold oJ
     rw [if_neg (by simp)]
     by_cases hk0:k=0
     ·subst hk0
      rw [if_neg (by simp)]
      unfold uZ
      rw [if_neg (by simp),cS hk (by omega),aAx,if_pos rfl]
      exact ⟨⟨p,by rw [hrk,hp],hx,hy⟩,fun h=>by omega⟩
     ·have hk1:wr ((k:Int) - 1)=((k - 1:Nat):Int):=by rw [dP (by omega) (by omega)];omega
      obtain ⟨v,hv⟩:=cmp1_ok (r[k - 1]'(by omega)) r[k] (by have:=hr2 _ (List.getElem_mem (show k - 1 < r.length by omega));omega)
      rw [if_pos (by simp;omega),hk1,cU (xs:=r) (k:=k - 1) (by omega),aA,cU hk,aA,hv,aA]
      unfold uZ
      by_cases h0:0<=v
      ·rw [if_pos (by simpa using h0),tH,if_neg (by simp)]
       intro hR
       have:=hR.2 (by omega) _ _ _ (List.getElem?_eq_getElem (show k - 1 < r.length by omega)) hrk hv
       omega
      ·rw [if_neg (by simpa using h0),cS hk (by omega),aAx,if_pos rfl]
       refine ⟨⟨p,by rw [hrk,hp],hx,hy⟩,fun _ x y w e1 e2 e3=>?_⟩
       rw [List.getElem?_eq_getElem (show k - 1 < r.length by omega)] at e1
       rw [hrk] at e2
       have e1:=zI e1
       have e2:=zI e2
       subst e1;subst e2
       rw [hv] at e3
       have e3:=zI e3
       omega
    ·have hb':(decide (0<=p.2)&&decide (p.2<=b.N - 1))=false:=by
      rw [Bool.eq_false_iff];intro h
      simp at h;exact hy (by unfold lU;omega)
     rw [hb',show (!false)=true from rfl,hout,tH,if_neg (by simp)]
     rintro ⟨⟨q,hq,_,hq2⟩,_⟩
     rw [hrk,hp] at hq
     have:=R2_eq.1 (zI hq)
     subst this;exact hy hq2
   ·rw [if_pos (by
     simp only [Bool.not_eq_true',Bool.and_eq_false_iff,decide_eq_false_iff_not]
     unfold lU at hx;omega),hout,tH,if_neg (by simp)]
    rintro ⟨⟨q,hq,hq2,_⟩,_⟩
    rw [hrk,hp] at hq
    have:=R2_eq.1 (zI hq)
    subst this;exact hx hq2
  ·rw [if_pos (by simp;omega),hout,tH,if_neg (by simp)]
   rintro ⟨⟨q,hq,_⟩,_⟩
   rw [hrk] at hq
   have:=zI hq
   rw [this] at hlen
   exact hlen rfl) (by
  show rQ r a.N b.N (r.length:Int)=_
  unfold rQ
  rw [if_neg (by simp)])
 rw [show ((0:Nat):Int)=0 from rfl] at this
 rw [this,aA]
 by_cases h:∀ k,0<=k->k < r.length->RowAt a b r k
 ·rw [aAx h,if_pos rfl]
  refine ⟨true,rfl,fun _=>?_⟩
  obtain ⟨l,hl,e⟩:=aLx (fun k hk=>h k (by omega) hk) r.length (by omega)
  exact ⟨l,hl,by rwa [List.take_length] at e⟩
 ·rw [tH h,if_neg (by simp)]
  exact ⟨false,rfl,fun e=>by cases e⟩
end
end Gv
set_option linter.unusedSimpArgs false
set_option linter.unusedVariables false
namespace Gv
open Go
section
variable {a b:cB} {l:List (Int × Int)}
theorem met_snd (ha:cN a) (hb:cN b) {still:List Bool} (hst:Snd b.N (Tau b) still) {x y:Int} (hy:lU b y) (hl:l.length < 1000000) (back:Bool):
  ∃ c,aGd a b still x y (l.map R2) back=some c/\(c=true->aBM a b (fun u v=>if back=true then (v,u)∈l else (u,v)∈l) x y):=by
 have h1:=hb.1
 have hne:a.E.length < 1000000:=by have:=ha.2.2.2.1;omega
 have hnl:b.L.length < 1000000:=by have:=hb.2.2.1.2.1;omega
 unfold aGd
 have key:∀ k:Nat,∃ d:Bool,∀ hk:k < a.E.length,tJ a b still x y (l.map R2) back (k:Int)=(if d=true then some (.inl ((k+1:Nat):Int)) else some (.inr (.inr false)))/\
   (d=true->a.E[k].F=x->∃ w,Wk b y (txt a a.E[k]) w/\if back=true then (w,a.E[k].To)∈l else (a.E[k].To,w)∈l):=by
  intro k
  by_cases hk:k < a.E.length
  ·suffices h:∃ d:Bool,tJ a b still x y (l.map R2) back (k:Int)=(if d=true then some (.inl ((k+1:Nat):Int)) else some (.inr (.inr false)))/\
     (d=true->a.E[k].F=x->∃ w,Wk b y (txt a a.E[k]) w/\if back=true then (w,a.E[k].To)∈l else (a.E[k].To,w)∈l) by
    obtain ⟨d,hd⟩:=h
    exact ⟨d,fun _=>hd⟩
   have hm:a.E[k]∈a.E:=List.getElem_mem hk
   unfold tJ
   rw [if_pos (dJ hk),cU hk,aA]
   by_cases hx:a.E[k].F=x
   ·rw [if_neg (by simp [hx]),aNt ha hm,aA,aIL _ _ (by omega),aA]
    by_cases hp:pos b.L (txt a a.E[k]) < 0
    ·rw [if_pos (by simpa using hp)]
     exact ⟨false,rfl,fun h=>by cases h⟩
    ·rw [if_neg (by simpa using hp)]
     obtain ⟨n,hn,hn2⟩:∃ n:Nat,∃ h:n < b.L.length,pos b.L (txt a a.E[k])=(n:Int)/\b.L[n]=txt a a.E[k]:=by
      unfold pos at hp ⊢
      cases e:b.L.findIdx? (fun z=>txt a a.E[k] == z) with
      |none=>rw [e] at hp;simp at hp
      |some i=>
       obtain ⟨h2,h3,_⟩:=List.findIdx?_eq_some_iff_getElem.1 e
       exact ⟨i,h2,rfl,(beq_iff_eq.1 h3).symm⟩
     obtain ⟨m,e1,e2⟩:=step_snd hb hst hy (pos b.L (txt a a.E[k]))
     rw [e1,aA]
     obtain ⟨f,f1,f2⟩:=oV (step:=fun s:Bool × Int=>aAO b (l.map R2) back a.E[k] m s.1 s.2)
      (fun s=>(0<=s.2/\s.2<=b.N)/\(s.1=true->∃ w,Wk b y (txt a a.E[k]) w/\if back=true then (w,a.E[k].To)∈l else (a.E[k].To,w)∈l)) (fun s=>(b.N - s.2).toNat)
      (fun f=>f=true->∃ w,Wk b y (txt a a.E[k]) w/\if back=true then (w,a.E[k].To)∈l else (a.E[k].To,w)∈l) (fun s hI=>by
      obtain ⟨⟨i0,i1⟩,hf⟩:=hI
      obtain ⟨fd,i⟩:=s
      show (∃ s',aAO b (l.map R2) back a.E[k] m fd i=_/\_)\/∃ r,aAO b (l.map R2) back a.E[k] m fd i=_/\_
      unfold aAO
      by_cases hi:i < b.N
      ·rw [if_pos (by simpa using hi)]
       unfold aAN
       cases fd with
       |true=>rw [if_neg (by simp)];exact .inr ⟨true,rfl,hf⟩
       |false=>
        rw [if_pos (by simp)]
        obtain ⟨v,hv⟩:=aIt (m:=m) e2.1 ⟨i0,hi⟩
        have hw:wr (i+1)=i+1:=kO i0 hi (by omega)
        unfold aAM
        rw [hv,aA,hw]
        cases v with
        |false=>
         rw [if_pos (by simp)]
         exact .inl ⟨_,rfl,⟨⟨by show 0<=i+1;omega,by show i+1<=b.N;omega⟩,hf⟩,by show (b.N - (i+1)).toNat < (b.N - i).toNat;omega⟩
        |true=>
         rw [if_neg (by simp)]
         have hW:Wk b y (txt a a.E[k]) i:=by
          have:=e2.2 i ⟨i0,hi⟩ hv
          rw [hn2.1] at this
          have h5:=stpI_wk hb hn this
          rw [hn2.2] at h5
          exact h5
         cases back with
         |true=>
          rw [if_pos rfl,has13 l hl,aA]
          refine .inl ⟨_,rfl,⟨⟨by show 0<=i+1;omega,by show i+1<=b.N;omega⟩,fun h=>⟨i,hW,?_⟩⟩,by show (b.N - (i+1)).toNat < (b.N - i).toNat;omega⟩
          rw [if_pos rfl];simpa using h
         |false=>
          rw [if_neg (by simp),has13 l hl,aA]
          refine .inl ⟨_,rfl,⟨⟨by show 0<=i+1;omega,by show i+1<=b.N;omega⟩,fun h=>⟨i,hW,?_⟩⟩,by show (b.N - (i+1)).toNat < (b.N - i).toNat;omega⟩
          rw [if_neg (by simp)];simpa using h
      ·rw [if_neg (by simpa using hi)]
       unfold aAN
       rw [if_neg (by simp)]
       exact .inr ⟨fd,rfl,hf⟩) (s:=(false,0)) ⟨⟨by simp,by show (0:Int)<=b.N;omega⟩,fun h=>by cases h⟩
     rw [f1,aA]
     unfold aCX aAL
     rw [cS hk (by omega)]
     cases f with
     |true=>exact ⟨true,rfl,fun _ _=>f2 rfl⟩
     |false=>exact ⟨false,rfl,fun h=>by cases h⟩
   ·rw [if_pos (by simpa using hx)]
    unfold aAL
    rw [cS hk (by omega)]
    exact ⟨true,rfl,fun _ h=>absurd h hx⟩
  ·exact ⟨true,fun h=>absurd h hk⟩
 obtain ⟨d,hd⟩:=Classical.axiomOfChoice key
 obtain ⟨c,c1,c2⟩:=aIa (step:=fun s=>tJ a b still x y (l.map R2) back s) a.E.length 0 d (.inr false) (.inl ()) (by omega) (fun k _ hk=>(hd k hk).1) (by
  show tJ a b still x y (l.map R2) back (a.E.length:Int)=_
  unfold tJ
  rw [if_neg (by simp)])
 rw [show ((0:Nat):Int)=0 from rfl] at c2
 rw [c2,aA]
 cases c with
 |true=>
  refine ⟨true,rfl,fun _ e he hx=>?_⟩
  obtain ⟨k,hk,rfl⟩:=List.mem_iff_getElem.1 he
  exact (hd k hk).2 (c1.1 rfl k (by omega) hk) hx
 |false=>exact ⟨false,rfl,fun h=>by cases h⟩
theorem cert_snd (ha:cN a) (hb:cN b) (r:List (List Int)) (hr:r.length < 1000000) (hr2:∀ x∈r,x.length < 1000000):∃ c,wT a b r=some c/\(c=true->∃ l,r=l.map R2/\WAcc a b l):=by
 obtain ⟨c,c1,c2⟩:=pairs13 ha hb r hr hr2
 unfold wT
 rw [c1,aA]
 cases c with
 |false=>
  rw [if_pos (by simp)]
  unfold nB
  exact ⟨false,rfl,fun h=>by cases h⟩
 |true=>
  obtain ⟨l,hl,rfl⟩:=c2 rfl
  rw [List.length_map] at hr
  rw [if_neg (by simp),has13 l hr,aA]
  unfold nB
  by_cases hin:(a.I,b.I)∈l
  ·obtain ⟨sa,a1,a2⟩:=aMD ha
   obtain ⟨sb,b1,b2⟩:=aMD hb
   rw [if_neg (by simpa using hin),a1,aA,b1,aA]
   have key:∀ k:Nat,∃ d:Bool,∀ hk:k < l.length,jA a b (l.map R2) sa sb (k:Int)=(if d=true then some (.inl ((k+1:Nat):Int)) else some (.inr (.inr false)))/\
     (d=true->aBM a b (fun u v=>(u,v)∈l) l[k].1 l[k].2/\aBM b a (fun v u=>(u,v)∈l) l[k].2 l[k].1):=by
    intro k
    by_cases hk:k < l.length
    ·suffices h:∃ d:Bool,jA a b (l.map R2) sa sb (k:Int)=(if d=true then some (.inl ((k+1:Nat):Int)) else some (.inr (.inr false)))/\
       (d=true->aBM a b (fun u v=>(u,v)∈l) l[k].1 l[k].2/\aBM b a (fun v u=>(u,v)∈l) l[k].2 l[k].1) by
      obtain ⟨d,hd⟩:=h
      exact ⟨d,fun _=>hd⟩
     have hk2:k < (l.map R2).length:=by rw [List.length_map];exact hk
     have hi:=hl.2 _ (List.getElem_mem hk)
     have hx:ix (l.map R2) (k:Int)=some (R2 l[k]):=by rw [cU hk2,List.getElem_map]
     obtain ⟨d1,e1,e2⟩:=met_snd ha hb b2 (x:=l[k].1) (y:=l[k].2) hi.2 hr false
     obtain ⟨d2,g1,g2⟩:=met_snd hb ha a2 (x:=l[k].2) (y:=l[k].1) hi.1 hr true
     unfold jA
     rw [if_pos (dJ hk2),hx,aA,show ix (R2 l[k]) 0=some l[k].1 from rfl,aA,show ix (R2 l[k]) 1=some l[k].2 from rfl,aA,e1,aA]
     unfold qZ
     rw [cS hk (by omega)]
     cases d1 with
     |false=>exact ⟨false,rfl,fun h=>by cases h⟩
     |true=>
      rw [if_neg (by simp),g1,aA]
      cases d2 with
      |false=>exact ⟨false,rfl,fun h=>by cases h⟩
      |true=>
       refine ⟨true,rfl,fun _=>⟨?_,?_⟩⟩
       ·have:=e2 rfl
        simpa using this
       ·have:=g2 rfl
        simpa using this
    ·exact ⟨true,fun h=>absurd h hk⟩
   obtain ⟨d,hd⟩:=Classical.axiomOfChoice key
   obtain ⟨c,c1,c2⟩:=aIa (step:=fun s=>jA a b (l.map R2) sa sb s) l.length 0 d (.inr false) (.inl ()) (by omega) (fun k _ hk=>(hd k hk).1) (by
    show jA a b (l.map R2) sa sb (l.length:Int)=_
    unfold jA
    rw [if_neg (by simp)])
   rw [show ((0:Nat):Int)=0 from rfl] at c2
   rw [c2,aA]
   cases c with
   |true=>
    refine ⟨true,rfl,fun _=>⟨l,rfl,hl,hin,fun p hp=>?_⟩⟩
    obtain ⟨k,hk,rfl⟩:=List.mem_iff_getElem.1 hp
    exact (hd k hk).2 (c1.1 rfl k (by omega) hk)
   |false=>exact ⟨false,rfl,fun h=>by cases h⟩
  ·rw [if_pos (by simpa using hin)]
   exact ⟨false,rfl,fun h=>by cases h⟩
end
theorem aNu {a b:cB} (fa:lE 999999999 a) (fb:lE 999999999 b) (r:List (List Int)) (hr:r.length < 1000000) (hr2:∀ x∈r,x.length < 1000000):
  ∃ c,tP a b r=some c/\((c=true/\(cN a/\cN b)/\∃ l,WAcc a b l)\/c=false/\aCe a b r=some false):=by
 unfold aCe
 rw [aGw a fa,aA]
 by_cases ha:cN a
 ·rw [aAx ha,if_pos rfl,aGw b fb,aA]
  by_cases hb:cN b
  ·rw [aAx hb,if_pos rfl]
   obtain ⟨c,c1,c2⟩:=IsWeak_eq ha hb fa fb r hr hr2
   obtain ⟨d,d1,d2⟩:=cert_snd ha hb r hr hr2
   refine ⟨c,c1,?_⟩
   cases c with
   |true=>
    obtain ⟨l,_,hl⟩:=c2.1 rfl
    exact .inl ⟨rfl,⟨ha,hb⟩,l,hl⟩
   |false=>
    right
    refine ⟨rfl,?_⟩
    rw [d1,aA]
    cases d with
    |true=>exact absurd (c2.2 (d2 rfl)) (by simp)
    |false=>rfl
  ·rw [tH hb,if_neg (by simp)]
   refine ⟨false,?_,.inr ⟨rfl,rfl⟩⟩
   unfold tP uY
   rw [aAR a fa,aAx ha,aA,if_neg (by simp),aAR b fb,tH hb,aA]
   rfl
 ·rw [tH ha,if_neg (by simp)]
  refine ⟨false,?_,.inr ⟨rfl,rfl⟩⟩
  unfold tP uY
  rw [aAR a fa,tH ha,aA,if_pos (by simp)]
  rfl
end Gv
set_option linter.unusedSimpArgs false
set_option linter.unusedVariables false
namespace Gv
open Go
inductive Fm where
 |at0 (n:dD)
 |at1 (n:dD) (x:Fm)
 |at2 (n:dD) (x y:Fm)
def Fm.tr:Fm->Tr dD
 |.at0 n=>.mk n []
 |.at1 n x=>.mk n [x.tr]
 |.at2 n x y=>.mk n [x.tr,y.tr]
def Fm.list:Fm->List dD
 |.at0 n=>[n]
 |.at1 n x=>n::x.list
 |.at2 n x y=>n::(x.list++y.list)
def Fm.ok:Fm->Prop
 |.at0 n=>(n.Kind=0\/n.Kind=1)/\n.B=[]/\n.Variable=0/\n.Not=false
 |.at1 n x=>(n.Kind=4\/n.Kind=5)/\n.B.length<=1000/\x.ok
 |.at2 n x y=>(n.Kind=2\/n.Kind=3)/\n.B=[]/\n.Variable=0/\n.Not=false/\x.ok/\y.ok
def Fm.sem (t:cB):Fm->Int->Prop
 |.at0 n,_=>n.Kind=0
 |.at1 n x,k=>if n.Kind=4 then ∃ e∈t.E,e.F=k/\selN n (txt t e)=true/\x.sem t e.To else ∀ e∈t.E,e.F=k->selN n (txt t e)=true->x.sem t e.To
 |.at2 n x y,k=>if n.Kind=2 then x.sem t k/\y.sem t k else x.sem t k\/y.sem t k
theorem aLy {t:cB} (hv:cN t):aHh t:=by
 have h1:=hv.1
 have h2:=hv.2.2.1.2.1
 have h3:=hv.2.2.2.1
 exact ⟨⟨by omega,by omega,by omega,fun e he=>by
  obtain ⟨a,b,c,d⟩:=aIM hv he
  unfold lU
  exact ⟨a,b,c,d⟩⟩,_,tail_cons hv⟩
section
variable {t:cB}
theorem wk_pre (hv:cN t) {x y w:Int} {s:aY} (h:Tau t x y) (g:Wk t y s w):Wk t x s w:=by
 unfold Wk at g ⊢
 split at g
 ·rename_i hs
  rw [if_pos hs]
  exact Tau.trans h g
 ·rename_i hs
  rw [if_neg hs]
  induction g with
  |base g=>
   obtain ⟨e,he,ht,hc,hq⟩:=g
   exact .base ⟨e,he,ht,Tau.trans h hc,hq⟩
  |step he hl _ ih=>exact .step he hl ih
theorem wk_post {x y w:Int} {s:aY} (g:Wk t x s y) (h:Tau t y w):Wk t x s w:=by
 unfold Wk at g ⊢
 split at g
 ·rename_i hs
  rw [if_pos hs]
  exact Tau.trans g h
 ·rename_i hs
  rw [if_neg hs]
  unfold Tau at h
  induction h with
  |base h'=>simp at h';subst h';exact g
  |step he hl _ ih=>exact .step he hl ih
theorem wk_lab (hv:cN t) {x w:Int} {s:aY} (h:Wk t x s w):s∈t.L:=by
 unfold Wk at h
 split at h
 ·rename_i hs
  obtain ⟨h0,h1⟩:=aNj hv
  rw [hs,←h1]
  exact List.getElem_mem h0
 ·have:∃ e∈t.E,txt t e=s:=by
   induction h with
   |base h=>obtain ⟨e,he,ht,_⟩:=h;exact ⟨e,he,ht⟩
   |step _ _ _ ih=>exact ih
  obtain ⟨e,he,ht⟩:=this
  obtain ⟨_,_,c,d⟩:=aIM hv he
  rw [←ht]
  unfold txt
  rw [List.getD_eq_getElem?_getD,List.getElem?_eq_getElem (by omega)]
  exact List.getElem_mem _
theorem aME (hv:cN t) {e:Edge} (he:e∈(aDx t).E):lU t e.F/\lU t e.To/\Wk t e.F (txt (aDx t) e) e.To:=by
 obtain ⟨h1,h2,h3⟩:=(aLv (aLy hv)).1 he
 exact ⟨h1,h3.inn hv h1,h3⟩
theorem aMF (hv:cN t) {x w:Int} {s:aY} (hx:lU t x) (h:Wk t x s w):∃ e∈(aDx t).E,e.F=x/\txt (aDx t) e=s/\e.To=w:=by
 obtain ⟨i,hi,hs⟩:=List.mem_iff_getElem.1 (wk_lab hv h)
 have ht:t.L.getD ((i:Int)).toNat []=s:=by rw [Int.toNat_natCast,List.getD_eq_getElem?_getD,List.getElem?_eq_getElem hi,←hs];rfl
 exact ⟨⟨x,(i:Int),w⟩,(aLv (aLy hv)).2 ⟨hx,⟨by show (0:Int)<=(i:Int);omega,by show (i:Int) < _;omega⟩,by show Wk t x _ w;rw [ht];exact h⟩,rfl,ht,rfl⟩
end
section
variable {a b:cB} {R:Int->Int->Prop}
theorem aOK (ha:cN a) (hb:cN b) (h:∀ x y,R x y->aBM a b R x y) {x y w:Int} (hR:R x y) (g:Tau a x w):∃ w',Tau b y w'/\R w w':=by
 unfold Tau at g
 induction g with
 |base h'=>simp at h';subst h';exact ⟨y,Tau.refl b y,hR⟩
 |step he hl _ ih=>
  obtain ⟨y1,h1,h2⟩:=ih
  obtain ⟨w',h3,h4⟩:=h _ _ h2 _ he rfl
  rw [(aNo ha he).2 hl] at h3
  unfold Wk at h3
  rw [if_pos rfl] at h3
  exact ⟨w',Tau.trans h1 h3,h4⟩
theorem lift_wk (ha:cN a) (hb:cN b) (h:∀ x y,R x y->aBM a b R x y) {x y w:Int} {s:aY} (hR:R x y) (g:Wk a x s w):∃ w',Wk b y s w'/\R w w':=by
 unfold Wk at g
 split at g
 ·rename_i hs
  obtain ⟨w',h1,h2⟩:=aOK ha hb h hR g
  exact ⟨w',by unfold Wk;rw [if_pos hs];exact h1,h2⟩
 ·rename_i hs
  induction g with
  |base g=>
   obtain ⟨e,he,ht,hc,hq⟩:=g
   obtain ⟨y1,h1,h2⟩:=aOK ha hb h hR hc
   obtain ⟨w',h3,h4⟩:=h _ _ h2 _ he rfl
   rw [ht] at h3
   rw [←hq]
   exact ⟨w',wk_pre hb h1 h3,h4⟩
  |step he hl _ ih=>
   obtain ⟨y1,h1,h2⟩:=ih
   obtain ⟨w',h3,h4⟩:=h _ _ h2 _ he rfl
   rw [(aNo ha he).2 hl] at h3
   unfold Wk at h3
   rw [if_pos rfl] at h3
   exact ⟨w',wk_post h1 h3,h4⟩
theorem aEX (ha:cN a) (hb:cN b) (hin:∀ x y,R x y->lU a x/\lU b y) (h1:∀ x y,R x y->aBM a b R x y) (h2:∀ x y,R x y->aBM b a (fun v u=>R u v) y x):
  ∀ (f:Fm) {x y:Int},R x y->(f.sem (aDx a) x<->f.sem (aDx b) y)
 |.at0 n,x,y,_=>Iff.rfl
 |.at2 n f g,x,y,hR=>by
  have i1:=aEX ha hb hin h1 h2 f hR
  have i2:=aEX ha hb hin h1 h2 g hR
  simp only [Fm.sem,i1,i2]
 |.at1 n f,x,y,hR=>by
  have fw:∀ e∈(aDx a).E,e.F=x->∃ d∈(aDx b).E,d.F=y/\txt (aDx b) d=txt (aDx a) e/\R e.To d.To:=fun e he hx=>by
   obtain ⟨s1,s2,s3⟩:=aME ha he
   rw [hx] at s3
   obtain ⟨w',g1,g2⟩:=lift_wk ha hb h1 hR s3
   obtain ⟨d,d1,d2,d3,d4⟩:=aMF hb (hin _ _ hR).2 g1
   exact ⟨d,d1,d2,d3,by rw [d4];exact g2⟩
  have bw:∀ d∈(aDx b).E,d.F=y->∃ e∈(aDx a).E,e.F=x/\txt (aDx a) e=txt (aDx b) d/\R e.To d.To:=fun d hd hy=>by
   obtain ⟨s1,s2,s3⟩:=aME hb hd
   rw [hy] at s3
   obtain ⟨w',g1,g2⟩:=lift_wk hb ha (R:=fun v u=>R u v) (fun v u h=>h2 u v h) hR s3
   obtain ⟨e,d1,d2,d3,d4⟩:=aMF ha (hin _ _ hR).1 g1
   exact ⟨e,d1,d2,d3,by rw [d4];exact g2⟩
  simp only [Fm.sem]
  split
  ·constructor
   ·rintro ⟨e,he,hx,hs,hf⟩
    obtain ⟨d,d1,d2,d3,d4⟩:=fw e he hx
    exact ⟨d,d1,d2,by rw [d3];exact hs,(aEX ha hb hin h1 h2 f d4).1 hf⟩
   ·rintro ⟨d,hd,hy,hs,hf⟩
    obtain ⟨e,d1,d2,d3,d4⟩:=bw d hd hy
    exact ⟨e,d1,d2,by rw [d3];exact hs,(aEX ha hb hin h1 h2 f d4).2 hf⟩
  ·constructor
   ·intro H d hd hy hs
    obtain ⟨e,d1,d2,d3,d4⟩:=bw d hd hy
    exact (aEX ha hb hin h1 h2 f d4).1 (H e d1 d2 (by rw [d3];exact hs))
   ·intro H e he hx hs
    obtain ⟨d,d1,d2,d3,d4⟩:=fw e he hx
    exact (aEX ha hb hin h1 h2 f d4).2 (H d d1 d2 (by rw [d3];exact hs))
end
theorem sem_acc {a b:cB} (ha:cN a) (hb:cN b) {l:List (Int × Int)} (h:WAcc a b l) (f:Fm):f.sem (aDx a) a.I<->f.sem (aDx b) b.I:=
 aEX ha hb (R:=fun u v=>(u,v)∈l) (fun x y hR=>h.1.2 _ hR) (fun x y hR=>(h.2.2 _ hR).1) (fun x y hR=>(h.2.2 _ hR).2) f h.2.1
end Gv
set_option linter.unusedSimpArgs false
set_option linter.unusedVariables false
namespace Gv
open Go
def tb (n:Nat) (g:Nat->Bool):List Bool:=(List.range n).map g
theorem tb_len (n:Nat) (g:Nat->Bool):(tb n g).length=n:=by simp [tb]
theorem tb_ix {n:Nat} {g:Nat->Bool} {k:Int} (h:0<=k/\k < n):ix (tb n g) k=some (g k.toNat):=by
 unfold ix tb
 rw [if_pos h.1,List.getElem?_map,List.getElem?_range (by omega)];rfl
theorem tb_st {n:Nat} {g:Nat->Bool} {k:Int} (v:Bool) (h:0<=k/\k < n):st (tb n g) k v=some (tb n fun j=>if j=k.toNat then v else g j):=by
 unfold Gv.st
 rw [if_pos ⟨h.1,by rw [tb_len];omega⟩]
 congr 1
 apply List.ext_getElem (by simp [tb])
 intro i h1 h2
 simp only [tb,List.getElem_set,List.getElem_map,List.getElem_range]
 by_cases e:k.toNat=i
 ·rw [if_pos e,if_pos e.symm]
 ·rw [if_neg e,if_neg (Ne.symm e)]
theorem tb_rep (n:Nat) (b:Bool):List.replicate n b=tb n fun _=>b:=by
 apply List.ext_getElem (by simp [tb])
 intro i h1 h2
 simp [tb]
theorem aBN {n:Nat} {g g':Nat->Bool} (h:∀ j,j < n->g j=g' j):tb n g=tb n g':=by
 apply List.ext_getElem (by simp [tb])
 intro i h1 h2
 simp [tb] at h1 ⊢
 exact h i h1
theorem yD {σ ρ:Type} {step:σ->Option (σ ⊕ ρ)} {s s':σ} (h:step s=some (.inl s')):loop step s=loop step s':=by rw [cY,h]
theorem aBO {σ ρ:Type} {step:σ->Option (σ ⊕ ρ)} {s:σ} {r:ρ} (h:step s=some (.inr r)):loop step s=some r:=by rw [cY,h]
noncomputable def mdB (u:cB) (n:dD) (op:Nat->Bool) (E:List Edge) (x:Nat):Bool:=
 if n.Kind=4 then E.any (fun e=>decide (e.F=(x:Int))&&(selN n (txt u e)&&op e.To.toNat)) else !(E.any fun e=>decide (e.F=(x:Int))&&(selN n (txt u e)&&!op e.To.toNat))
structure WhOk (u:cB) (N:Nat):Prop where
 hug:Hug u
 st:u.N=(N:Int)
 lab:∀ s∈u.L,zU s=true/\s.length < 1000000
section
variable {u:cB} {N:Nat}
theorem WhOk.txt (h:WhOk u N) {e:Edge} (he:e∈u.E):ix u.L e.B=some (txt u e)/\zU (Gv.txt u e)=true/\(Gv.txt u e).length < 1000000:=by
 obtain ⟨_,_,h1,h2⟩:=h.hug.inn e he
 have hm:Gv.txt u e=u.L[e.B.toNat]'(by omega):=by
  unfold Gv.txt
  rw [List.getD_eq_getElem?_getD,List.getElem?_eq_getElem (by omega)];rfl
 refine ⟨?_,?_⟩
 ·unfold ix
  rw [if_pos h1,List.getElem?_eq_getElem (by omega),hm]
 ·rw [hm]
  exact h.lab _ (List.getElem_mem _)
theorem mod_eq (h:WhOk u N) {n:dD} (hk:n.Kind=4\/n.Kind=5) (hn:n.B.length < 1000000) (op:Nat->Bool):wU u n (tb N op)=some (tb N (mdB u n op u.E)):=by
 have h1:=h.hug.st
 have h2:=h.hug.ed
 have hN:=h.st
 unfold wU
 rw [hN,aJG _ N (by omega) (by omega),aA,tb_rep]
 obtain ⟨r,e1,e2⟩:=eA (step:=fun s:List Bool × Int=>lA u n (tb N op) s.1 s.2) u.E.length (fun k (q:List Bool)=>(q,(k:Int))) (fun k q=>q=tb N (mdB u n op (u.E.take k))) (fun q=>q=tb N (mdB u n op u.E)) (fun k q hk' hI=>by
  subst hI
  refine ⟨tb N (mdB u n op (u.E.take (k+1))),?_,rfl⟩
  show lA u n (tb N op) (tb N (mdB u n op (u.E.take k))) (k:Int)=_
  have hm:=List.getElem_mem hk'
  obtain ⟨t1,t2,t3⟩:=h.txt hm
  obtain ⟨b1,b2,_,_⟩:=h.hug.inn _ hm
  unfold lU at b1 b2
  have hw:wr ((k:Int)+1)=((k+1:Nat):Int):=cS hk' (by omega)
  have htk:u.E.take (k+1)=u.E.take k++[u.E[k]]:=by rw [List.take_add_one,List.getElem?_eq_getElem hk'];rfl
  unfold lA
  rw [if_pos (dJ hk'),cU hk',aA,t1,aA,aPH hn t3 t2,aA]
  unfold rB rA
  rw [hw]
  have hkeep:selN n (Gv.txt u u.E[k])=false\/(op u.E[k].To.toNat == (n.Kind == 4))=false->tb N (mdB u n op (u.E.take k))=tb N (mdB u n op (u.E.take (k+1))):=fun hf=>by
   refine aBN fun j hj=>?_
   unfold mdB
   rw [htk]
   simp only [List.any_append,List.any_cons,List.any_nil,Bool.or_false]
   rcases hf with hf|hf
   ·simp [hf]
   ·rcases hk with hk|hk
    ·simp [hk] at hf ⊢;simp [hf]
    ·simp [hk] at hf ⊢;simp [hf]
  cases hs:selN n (Gv.txt u u.E[k]) with
  |false=>
   rw [if_neg (by simp),if_neg (by simp),hkeep (.inl hs)]
  |true=>
   rw [if_pos rfl,tb_ix (by omega),aA]
   cases ho:(op u.E[k].To.toNat == (n.Kind == 4)) with
   |false=>rw [if_neg (by simp),hkeep (.inr ho)]
   |true=>
    rw [if_pos rfl,tb_ix (by omega),aA,tb_st _ (by omega),aA]
    refine congrArg (fun z=>some (Sum.inl (z,((k+1:Nat):Int)))) (aBN fun j hj=>?_)
    unfold mdB
    rw [htk]
    simp only [List.any_append,List.any_cons,List.any_nil,Bool.or_false]
    by_cases hj':j=u.E[k].F.toNat
    ·have hj2:u.E[k].F=(j:Int):=by omega
     rw [if_pos hj']
     rcases hk with hk|hk
     ·simp [hk] at ho ⊢;simp [hs,ho,hj2]
     ·simp [hk] at ho ⊢;simp [hs,ho,hj2]
    ·have hj2:¬ u.E[k].F=(j:Int):=by omega
     rw [if_neg hj']
     simp [hj2]) (fun q hI=>by
  subst hI
  refine ⟨_,?_,rfl⟩
  show lA u n (tb N op) (tb N (mdB u n op (u.E.take u.E.length))) (u.E.length:Int)=_
  unfold lA
  rw [if_neg (by simp),List.take_length]) u.E.length 0 (tb N fun _=>n.Kind == 5) (by omega) (by
   refine aBN fun j hj=>?_
   unfold mdB
   rcases hk with hk|hk<;>simp [hk])
 rw [show ((0:Nat):Int)=0 from rfl] at e1
 rw [e1,aA,e2]
 rfl
def Fm.ht:Fm->Nat
 |.at0 _=>0
 |.at1 _ x=>x.ht+1
 |.at2 _ x y=>max x.ht y.ht+1
theorem aMG (n:dD):nC n=some (decide (n.Kind=4\/n.Kind=5)):=by
 unfold nC mS
 by_cases h:n.Kind=4
 ·simp [h]
 ·by_cases h':n.Kind=5<;>simp [h,h']
def aJO (n:dD) (A B:Nat->Bool) (k:Nat):Bool:=if n.Kind=2 then A k&&B k else A k||B k
theorem whl_at2 {n:dD} {l:List (Tr dD)} (hk:n.Kind=2\/n.Kind=3) (hN:N<=1000) (A B:Nat->Bool) (r:List Bool) (hr:r.length=N) (b0:Bool):
  loop (fun s:List Bool × Int=>dX (.mk n l) [tb N A,tb N B] r s.1 s.2) (tb N fun _=>b0,0)=some (tb N (aJO n A B)):=by
 obtain ⟨q,e1,e2⟩:=eA (step:=fun s:List Bool × Int=>dX (.mk n l) [tb N A,tb N B] r s.1 s.2) N (fun k (q:List Bool)=>(q,(k:Int))) (fun k q=>q=tb N fun j=>if j < k then aJO n A B j else b0) (fun q=>q=tb N (aJO n A B)) (fun k q hk' hI=>by
  subst hI
  refine ⟨tb N fun j=>if j < k+1 then aJO n A B j else b0,?_,rfl⟩
  show dX (.mk n l) [tb N A,tb N B] r (tb N fun j=>if j < k then aJO n A B j else b0) (k:Int)=_
  have hb:(0:Int)<=(k:Int)/\(k:Int) < (N:Int):=by omega
  have hw:wr ((k:Int)+1)=((k+1:Nat):Int):=cS hk' (by omega)
  have hset:∀ v,v=aJO n A B k->st (tb N fun j=>if j < k then aJO n A B j else b0) (k:Int) v=some (tb N fun j=>if j < k+1 then aJO n A B j else b0):=fun v hv=>by
   rw [tb_st _ hb]
   refine congrArg some (aBN fun j hj=>?_)
   rw [Int.toNat_natCast]
   by_cases e:j=k
   ·subst e
    rw [if_pos rfl,if_pos (by omega),hv]
   ·rw [if_neg e]
    by_cases e2:j < k
    ·rw [if_pos e2,if_pos (by omega)]
    ·rw [if_neg e2,if_neg (by omega)]
  unfold dX
  rw [if_pos (by simp [hr];omega)]
  have hi0:ix [tb N A,tb N B] 0=some (tb N A):=rfl
  have hi1:ix [tb N A,tb N B] 1=some (tb N B):=rfl
  unfold pJ pK jQ
  rw [show (Tr.mk n l).val=n from rfl,hi0,hi1]
  simp only [aA,tb_ix hb,Int.toNat_natCast,hw]
  rcases hk with hk|hk
  ·have hbin:∀ j,aJO n A B j=(A j&&B j):=fun j=>by unfold aJO;rw [if_pos hk]
   rw [if_pos (by simp [hk])]
   cases hA:A k with
   |true=>rw [if_pos rfl,hset _ (by rw [hbin,hA];rfl),aA]
   |false=>rw [if_neg (by simp),hset _ (by rw [hbin,hA];rfl),aA]
  ·have hbin:∀ j,aJO n A B j=(A j||B j):=fun j=>by unfold aJO;rw [if_neg (by omega)]
   rw [if_neg (by simp [hk]),if_pos (by simp [hk])]
   cases hA:A k with
   |true=>rw [if_pos rfl,hset _ (by rw [hbin,hA];rfl),aA]
   |false=>rw [if_neg (by simp),hset _ (by rw [hbin,hA];rfl),aA]) (fun q hI=>by
  subst hI
  refine ⟨_,?_,rfl⟩
  show dX (.mk n l) [tb N A,tb N B] r _ (N:Int)=_
  unfold dX
  rw [if_neg (by simp [hr])]
  refine congrArg (fun z=>some (Sum.inr z)) (aBN fun j hj=>?_)
  rw [if_pos hj]) N 0 (tb N fun _=>b0) (by omega) (aBN fun j hj=>by rw [if_neg (by omega)])
 rw [show ((0:Nat):Int)=0 from rfl] at e1
 rw [e1,e2]
theorem whl_at0 {n:dD} {l:List (Tr dD)} (hk:n.Kind=0\/n.Kind=1) (hN:N<=1000) (as:List (List Bool)) (r:List Bool) (hr:r.length=N) (q:List Bool):
  loop (fun s:List Bool × Int=>dX (.mk n l) as r s.1 s.2) (q,0)=some q:=by
 obtain ⟨q',e1,e2⟩:=eA (step:=fun s:List Bool × Int=>dX (.mk n l) as r s.1 s.2) N (fun k (q:List Bool)=>(q,(k:Int))) (fun k q'=>q'=q) (fun q'=>q'=q) (fun k q' hk' hI=>by
  refine ⟨q',?_,hI⟩
  show dX (.mk n l) as r q' (k:Int)=_
  have hw:wr ((k:Int)+1)=((k+1:Nat):Int):=cS hk' (by omega)
  unfold dX jQ
  rw [show (Tr.mk n l).val=n from rfl,if_pos (by simp [hr];omega),if_neg (by rcases hk with hk|hk<;>simp [hk]),if_neg (by rcases hk with hk|hk<;>simp [hk]),hw]) (fun q' hI=>by
  refine ⟨q',?_,hI⟩
  show dX (.mk n l) as r q' (N:Int)=_
  unfold dX
  rw [if_neg (by simp [hr])]) N 0 q (by omega) rfl
 rw [show ((0:Nat):Int)=0 from rfl] at e1
 rw [e1,e2]
theorem aJp (h:WhOk u N):∀ (f:Fm) (m:Nat),f.ok->f.ht<=m->iB (m+1) f.tr u=some (tb N fun k=>cl (f.sem u (k:Int)))
 |.at0 n,m,ho,hm=>by
  have h1:=h.hug.st
  have hN:=h.st
  simp only [Fm.ok] at ho
  show iA (iB m) (.mk n []) u=_
  unfold iA
  rw [show (Tr.mk n ([]:List (Tr dD))).kids=[] from rfl,aBO (r:=[]) (by unfold iK;rw [if_neg (by simp)]),aA]
  unfold jR
  rw [show (Tr.mk n ([]:List (Tr dD))).val=n from rfl,aMG,aA,if_neg (by simp;omega),hN,aJG _ N (by omega) (by omega),aA,whl_at0 (N:=N) ho.1 (by omega) [] _ (by simp) _,aA]
  unfold mE
  rw [tb_rep]
  refine congrArg some (aBN fun j hj=>?_)
  rw [eq_comm]
  refine aEU ?_
  simp only [Fm.sem]
  simp
 |.at1 n x,m,ho,hm=>by
  simp only [Fm.ok] at ho
  simp only [Fm.ht] at hm
  obtain ⟨m',rfl⟩:∃ m',m=m'+1:=⟨m - 1,by omega⟩
  have ih:=aJp h x m' ho.2.2 (by omega)
  show iA (iB (m'+1)) (.mk n [x.tr]) u=_
  unfold iA
  rw [show (Tr.mk n [x.tr]).kids=[x.tr] from rfl,yD (s':=([tb N fun k=>cl (x.sem u (k:Int))],[x.tr],1,1)) (by
   unfold iK
   rw [if_pos (by simp),show ix [x.tr] 0=some x.tr from rfl,aA,ih,aA,dK (by simp [kP]),aA]
   rfl),aBO (r:=[tb N fun k=>cl (x.sem u (k:Int))]) (by unfold iK;rw [if_neg (by simp)]),aA]
  unfold jR
  rw [show (Tr.mk n [x.tr]).val=n from rfl,aMG,aA,if_pos (by simp [ho.1]),show ix [tb N fun k=>cl (x.sem u (k:Int))] 0=some (tb N fun k=>cl (x.sem u (k:Int))) from rfl,aA,mod_eq h ho.1 (by have:=ho.2.1;omega),aA]
  refine congrArg some (aBN fun j hj=>?_)
  rw [eq_comm]
  refine aEU ?_
  have hto:∀ e∈u.E,((e.To.toNat:Nat):Int)=e.To:=fun e he=>by
   obtain ⟨_,b2,_⟩:=h.hug.inn e he
   unfold lU at b2;omega
  unfold mdB
  simp only [Fm.sem]
  by_cases hk:n.Kind=4
  ·rw [if_pos hk,if_pos hk,List.any_eq_true]
   constructor
   ·rintro ⟨e,he,hc⟩
    simp only [Bool.and_eq_true,decide_eq_true_iff,vC] at hc
    rw [hto e he] at hc
    exact ⟨e,he,hc.1,hc.2.1,hc.2.2⟩
   ·rintro ⟨e,he,h1,h2,h3⟩
    refine ⟨e,he,?_⟩
    simp only [Bool.and_eq_true,decide_eq_true_iff,vC]
    rw [hto e he]
    exact ⟨h1,h2,h3⟩
  ·rw [if_neg hk,if_neg hk,Bool.not_eq_true',Bool.eq_false_iff]
   rw [ne_eq,List.any_eq_true]
   constructor
   ·intro hc e he h1 h2
    by_cases h3:x.sem u e.To
    ·exact h3
    ·exfalso
     refine hc ⟨e,he,?_⟩
     simp only [Bool.and_eq_true,decide_eq_true_iff,Bool.not_eq_true']
     rw [hto e he]
     exact ⟨h1,h2,tH h3⟩
   ·rintro hc ⟨e,he,h1⟩
    simp only [Bool.and_eq_true,decide_eq_true_iff,Bool.not_eq_true'] at h1
    rw [hto e he] at h1
    have:=aAx (hc e he h1.1 h1.2.1)
    rw [this] at h1
    exact absurd h1.2.2 (by simp)
 |.at2 n x y,m,ho,hm=>by
  have h1:=h.hug.st
  have hN:=h.st
  simp only [Fm.ok] at ho
  simp only [Fm.ht] at hm
  obtain ⟨m',rfl⟩:∃ m',m=m'+1:=⟨m - 1,by omega⟩
  have ih1:=aJp h x m' ho.2.2.2.2.1 (by omega)
  have ih2:=aJp h y m' ho.2.2.2.2.2 (by omega)
  show iA (iB (m'+1)) (.mk n [x.tr,y.tr]) u=_
  unfold iA
  rw [show (Tr.mk n [x.tr,y.tr]).kids=[x.tr,y.tr] from rfl,yD (s':=([tb N fun k=>cl (x.sem u (k:Int))],[x.tr,y.tr],2,1)) (by
   unfold iK
   rw [if_pos (by simp),show ix [x.tr,y.tr] 0=some x.tr from rfl,aA,ih1,aA,dK (by simp [kP]),aA]
   rfl),yD (s':=([tb N fun k=>cl (x.sem u (k:Int)),tb N fun k=>cl (y.sem u (k:Int))],[x.tr,y.tr],2,2)) (by
   unfold iK
   rw [if_pos (by simp),show ix [x.tr,y.tr] 1=some y.tr from rfl,aA,ih2,aA,dK (by simp [kP]),aA]
   rfl),aBO (r:=[tb N fun k=>cl (x.sem u (k:Int)),tb N fun k=>cl (y.sem u (k:Int))]) (by unfold iK;rw [if_neg (by simp)]),aA]
  unfold jR
  rw [show (Tr.mk n [x.tr,y.tr]).val=n from rfl,aMG,aA,if_neg (by simp;omega),hN,aJG _ N (by omega) (by omega),aA,tb_rep,whl_at2 ho.1 (by omega) _ _ _ (by rw [tb_len]) _,aA]
  unfold mE
  refine congrArg some (aBN fun j hj=>?_)
  rw [eq_comm]
  refine aEU ?_
  unfold aJO
  simp only [Fm.sem]
  by_cases hk:n.Kind=2
  ·rw [if_pos hk,if_pos hk,Bool.and_eq_true,vC,vC]
  ·rw [if_neg hk,if_neg hk,Bool.or_eq_true,vC,vC]
end
end Gv
set_option linter.unusedSimpArgs false
set_option linter.unusedVariables false
namespace Gv
open Go
def Fm.sz:Fm->Nat
 |.at0 _=>1
 |.at1 _ x=>x.sz+1
 |.at2 _ x y=>x.sz+y.sz+1
theorem Fm.len:∀ f:Fm,f.list.length=f.sz
 |.at0 _=>rfl
 |.at1 _ x=>by simp [Fm.list,Fm.sz,Fm.len x]
 |.at2 _ x y=>by simp [Fm.list,Fm.sz,Fm.len x,Fm.len y]
theorem Fm.pos:∀ f:Fm,1<=f.sz
 |.at0 _=>by simp [Fm.sz]
 |.at1 _ x=>by simp [Fm.sz]
 |.at2 _ x y=>by simp [Fm.sz]
def Fm.fd:Fm->Prop
 |.at0 n=>True
 |.at1 n x=>(n.Variable=0/\aAP n.B=some true)/\x.fd
 |.at2 n x y=>x.fd/\y.fd
theorem aAS {n:dD}:(n.Kind=0\/n.Kind=1->lO n=some 0)/\(n.Kind=4\/n.Kind=5->lO n=some 1)/\(n.Kind=2\/n.Kind=3->lO n=some 2):=by
 unfold lO pG jP
 refine ⟨fun h=>?_,fun h=>?_,fun h=>?_⟩<;>rcases h with h|h<;>simp [h]
theorem slc_tl {γ:Type} (x:γ) (l:List γ):slc (x::l) 1 ((x::l).length:Int)=some l:=by
 unfold slc
 rw [if_pos (by simp;omega)]
 simp
theorem aKw:∀ (f:Fm) (m:Nat) (rest:List dD),f.ok->f.ht<=m->jM (m+1) (f.list++rest)=some (f.tr,rest)
 |.at0 n,m,rest,ho,hm=>by
  simp only [Fm.ok] at ho
  show jL (jM m) (n::rest)=_
  unfold jL
  rw [show ix (n::rest) 0=some n from rfl,aA,slc_tl,aA,aAS.1 ho.1,aA,aBO (r:=([],rest)) (by unfold kH;rw [if_neg (by simp)]),aA]
  rfl
 |.at1 n x,m,rest,ho,hm=>by
  simp only [Fm.ok] at ho
  simp only [Fm.ht] at hm
  obtain ⟨m',rfl⟩:∃ m',m=m'+1:=⟨m - 1,by omega⟩
  have ih:=aKw x m' rest ho.2.2 (by omega)
  show jL (jM (m'+1)) (n::(x.list++rest))=_
  unfold jL
  rw [show ix (n::(x.list++rest)) 0=some n from rfl,aA,slc_tl,aA,aAS.2.1 ho.1,aA,yD (s':=([x.tr],rest,1)) (by
   unfold kH
   rw [if_pos (by simp),ih,aA,dK (by simp [kP]),aA]
   rfl),aBO (r:=([x.tr],rest)) (by unfold kH;rw [if_neg (by simp)]),aA]
  rfl
 |.at2 n x y,m,rest,ho,hm=>by
  simp only [Fm.ok] at ho
  simp only [Fm.ht] at hm
  obtain ⟨m',rfl⟩:∃ m',m=m'+1:=⟨m - 1,by omega⟩
  have ih1:=aKw x m' (y.list++rest) ho.2.2.2.2.1 (by omega)
  have ih2:=aKw y m' rest ho.2.2.2.2.2 (by omega)
  show jL (jM (m'+1)) (n::(x.list++y.list)++rest)=_
  rw [show n::(x.list++y.list)++rest=n::(x.list++(y.list++rest)) by simp]
  unfold jL
  rw [show ix (n::(x.list++(y.list++rest))) 0=some n from rfl,aA,slc_tl,aA,aAS.2.2 ho.1,aA,yD (s':=([x.tr],y.list++rest,1)) (by
   unfold kH
   rw [if_pos (by simp),ih1,aA,dK (by simp [kP]),aA]
   rfl),yD (s':=([x.tr,y.tr],rest,2)) (by
   unfold kH
   rw [if_pos (by simp),ih2,aA,dK (by simp [kP]),aA]
   rfl),aBO (r:=([x.tr,y.tr],rest)) (by unfold kH;rw [if_neg (by simp)]),aA]
  rfl
theorem of_eq {f:Fm} (ho:f.ok) (hh:f.ht<=1000):aCY f.list=some f.tr:=by
 unfold aCY aFI
 have:=aKw f 99999 [] ho (by omega)
 rw [List.append_nil] at this
 rw [this,aA]
theorem aId:∀ (f:Fm) (F pre post:List dD) (need:Int),f.ok->F=pre++f.list++post->F.length<=1000->1<=need->need<=100000 - 2 * (f.sz:Int)->
  loop (fun s:Int × Int=>jK F s.1 s.2) (need,(pre.length:Int))=loop (fun s:Int × Int=>jK F s.1 s.2) (need - 1,((pre++f.list).length:Int))
 |.at0 n=>by
  intro F pre post need ho hF hl h1 h2
  simp only [Fm.ok] at ho
  have hlt:pre.length < F.length:=by rw [hF];simp [Fm.list]
  have hix:ix F (pre.length:Int)=some n:=by
   rw [cU hlt];subst hF;simp [Fm.list]
  refine yD ?_
  show jK F need (pre.length:Int)=_
  unfold jK
  rw [if_pos (dJ hlt),hix,aA,if_neg (by simp;omega),aAS.1 ho.1,aA,dP (x:=(0:Int) - 1) (by omega) (by omega),dP (by omega) (by omega),cS hlt (by omega),show need+(0 - 1)=need - 1 by omega]
  simp only [Fm.list,List.length_append,List.length_singleton]
 |.at1 n x=>by
  intro F pre post need ho hF hl h1 h2
  simp only [Fm.ok] at ho
  simp only [Fm.sz] at h2
  have hlt:pre.length < F.length:=by rw [hF];simp [Fm.list]
  have hix:ix F (pre.length:Int)=some n:=by
   rw [cU hlt];subst hF;simp [Fm.list]
  rw [yD (s':=(need,((pre++[n]).length:Int))) (by
   show jK F need (pre.length:Int)=_
   unfold jK
   rw [if_pos (dJ hlt),hix,aA,if_neg (by simp;omega),aAS.2.1 ho.1,aA,dP (x:=(1:Int) - 1) (by omega) (by omega),dP (by omega) (by omega),cS hlt (by omega),show need+(1 - 1)=need by omega,List.length_append,List.length_singleton]),aId x F (pre++[n]) post need ho.2.2 (by rw [hF];simp [Fm.list]) hl h1 (by omega)]
  congr 2
  simp [Fm.list]
 |.at2 n x y=>by
  intro F pre post need ho hF hl h1 h2
  simp only [Fm.ok] at ho
  simp only [Fm.sz] at h2
  have hlt:pre.length < F.length:=by rw [hF];simp [Fm.list]
  have hix:ix F (pre.length:Int)=some n:=by
   rw [cU hlt];subst hF;simp [Fm.list]
  rw [yD (s':=(need+1,((pre++[n]).length:Int))) (by
   show jK F need (pre.length:Int)=_
   unfold jK
   rw [if_pos (dJ hlt),hix,aA,if_neg (by simp;omega),aAS.2.2 ho.1,aA,dP (x:=(2:Int) - 1) (by omega) (by omega),dP (by omega) (by omega),cS hlt (by omega),show need+(2 - 1)=need+1 by omega,List.length_append,List.length_singleton]),aId x F (pre++[n]) (y.list++post) (need+1) ho.2.2.2.2.1 (by rw [hF];simp [Fm.list]) hl (by omega) (by have:=y.pos;omega),
   aId y F (pre++[n]++x.list) post (need+1 - 1) ho.2.2.2.2.2 (by rw [hF];simp [Fm.list]) hl (by omega) (by omega)]
  have e1:need+1 - 1 - 1=need - 1:=by omega
  rw [e1]
  congr 2
  simp [Fm.list]
theorem shape_ok {f:Fm} (ho:f.ok) (hs:f.sz<=200):aGe f.list=some true:=by
 unfold aGe
 have h1:=aId f f.list [] [] 1 ho (by simp) (by rw [f.len];omega) (by omega) (by omega)
 rw [show (([]:List dD).length:Int)=0 from rfl,List.nil_append,show (1:Int) - 1=0 from rfl] at h1
 rw [h1,aBO (r:=.inl 0) (by
  show jK f.list 0 (f.list.length:Int)=_
  unfold jK
  rw [if_neg (by simp)]),aA]
 rfl
theorem aIe:∀ (f:Fm),f.ok->f.fd->∀ n∈f.list,nU n=some false
 |.at0 n,ho,hf,k,hk=>by
  simp only [Fm.ok] at ho
  simp only [Fm.list,List.mem_singleton] at hk
  subst hk
  unfold nU iJ qH mD
  rw [yB,aA,if_neg (by simp;omega),if_neg (by simp [ho.2.2.1]),aMG,aA,if_neg (by simp;omega),if_pos (by simp [ho.2.1]),aA,ho.2.2.2]
  rfl
 |.at1 n x,ho,hf,k,hk=>by
  simp only [Fm.ok] at ho
  simp only [Fm.fd] at hf
  simp only [Fm.list,List.mem_cons] at hk
  rcases hk with hk|hk
  ·subst hk
   unfold nU iJ qH
   rw [yB,aA,if_neg (by simp;omega),if_neg (by simp [hf.1.1]),aMG,aA,if_pos (by simp [ho.1]),hf.1.2,aA,aA]
   rfl
  ·exact aIe x ho.2.2 hf.2 k hk
 |.at2 n x y,ho,hf,k,hk=>by
  simp only [Fm.ok] at ho
  simp only [Fm.fd] at hf
  simp only [Fm.list,List.mem_cons,List.mem_append] at hk
  rcases hk with hk|hk|hk
  ·subst hk
   unfold nU iJ qH mD
   rw [yB,aA,if_neg (by simp;omega),if_neg (by simp [ho.2.2.1]),aMG,aA,if_neg (by simp;omega),if_pos (by simp [ho.2.1]),aA,ho.2.2.2.1]
   rfl
  ·exact aIe x ho.2.2.2.2.1 hf.1 k hk
  ·exact aIe y ho.2.2.2.2.2 hf.2 k hk
theorem modal_ok {f:Fm} (ho:f.ok) (hf:f.fd) (hs:f.sz<=200):aBy f.list=some true:=by
 have hl:=f.len
 have hp:=f.pos
 unfold aBy
 rw [yB,aA,if_neg (by simp;omega),shape_ok ho hs,aA]
 unfold uG eQ eY
 rw [if_neg (by simp),yC (step:=fun s=>cX f.list s) f.list (fun _=>false) (fun k x hk hx=>by
  show cX f.list (k:Int)=_
  obtain ⟨hk',rfl⟩:=wZ hx
  unfold cX
  rw [if_pos (dJ hk),hx,aA,aIe f ho hf _ (List.getElem_mem hk'),aA,if_neg (by simp),cS hk (by omega)]
  rfl) (by
  show cX f.list (f.list.length:Int)=_
  unfold cX
  rw [if_neg (by simp)]),aA]
 have:f.list.findIdx? (fun _=>false)=none:=by simp
 rw [this]
 rfl
theorem aMH {f:Fm} {t:cB} (ht:cN t) (ft:lE 1000 t) (ho:f.ok) (hf:f.fd) (hs:f.sz<=200) (hh:f.ht<=1000):oL f.list t t.I=some (cl (f.sem (aDx t) t.I),0):=by
 have h1:=ht.1
 have h2:=ht.2.1
 have h3:=ht.2.2.1.2.1
 have hb:=aLy ht
 unfold oL aFo
 rw [modal_ok ho hf hs,aA,if_neg (by simp)]
 unfold aDZ
 rw [aAR t ⟨by have:=ft.1;omega,fun s h=>by have:=ft.2.1 s h;omega,by have:=ft.2.2;omega⟩,aAx ht,aA,if_neg (by simp)]
 have hin:lU t t.I:=by unfold lU;omega
 have hc:eG [t.I] t=some false:=by
  unfold eG gB
  rw [yD (s':=1) (by
   unfold fN aAg
   rw [if_pos (by simp),show ix [t.I] 0=some t.I from rfl,aA,isSt ht,aA,aA,if_neg (by simp [hin])]
   rfl),aBO (r:=.inl ()) (by
   unfold fN
   rw [if_neg (by simp)]),aA]
  rfl
 rw [hc,aA,if_neg (by simp),aA,aA,if_neg (by simp),of_eq ho hh,aA,aNs hb (by omega) (by omega),aA]
 obtain ⟨N,hN⟩:∃ N:Nat,t.N=(N:Int):=⟨t.N.toNat,by omega⟩
 have hw:WhOk (aDx t) N:=⟨satU_hug hb (by omega) (by omega),hN,fun s hs=>⟨by
  have hl:=ht.2.2.1
  obtain ⟨i,hi,rfl⟩:=List.mem_iff_getElem.1 hs
  by_cases h0:i=0
  ·subst h0
   have:(aDx t).L[0]=dV:=hl.2.2.1 hi
   rw [this];exact aJF
  ·exact (hl.2.2.2 i (by omega) hi).1,by have:=ft.2.1 s hs;omega⟩⟩
 unfold aDr
 rw [aJp hw f 99999 ho (by omega),aA,tb_ix (by omega),aA,show ((t.I.toNat:Nat):Int)=t.I by omega]
end Gv
set_option linter.unusedSimpArgs false
set_option linter.unusedVariables false
namespace Gv
open Go
theorem text6 (c:aY) {s1:Int} (s2:Int) (h:0<=s1/\s1<=100000000000) {l:List aY} (hl:l≠[]):∃ v s1' s2',gE c s1 s2 l=some (v,s1',s2')/\v∈l/\s1<=s1'/\s1'<=s1+2:=by
 have h1:1<=(l.length:Int):=by
  have:=List.length_pos_iff.2 hl
  omega
 obtain ⟨v,a,b,e,hv,h2,h3⟩:=fH c s2 h h1
 unfold gE
 rw [e,aA,aFd hv.1 (by omega),aA]
 exact ⟨_,_,_,rfl,List.getElem_mem _,h2,h3⟩
def patM (l:aY):Bool:=l == []||zU l||(l.getLast? == some (42:UInt8)&&aDm l.dropLast)
theorem ipatM {l:aY} (h:l.length < 1000):aAP l=some (patM l):=by
 unfold aAP pH patM
 have h1:((if (l.getLast? == some (42:UInt8))=true then (l.dropLast,true) else (l,false)).1:aY).length < 1000:=by
  split
  ·show l.dropLast.length < 1000
   rw [List.length_dropLast];omega
  ·exact h
 rw [aJo _ _ (by omega),aA,aIH _ (by omega),aA,aKb _ (by omega),aA]
 cases l == []<;>cases zU l<;>cases l.getLast? == some (42:UInt8)<;>simp
def Nz:List aY:=Nm++[[122,122]]
theorem Nz_pat:∀ s∈Nz,patM s=true/\s.length < 100/\(s≠dV->patM ((gV 40 s).1++[42])=true)/\(gV 40 s).1.length < 100:=by decide
theorem Ct_pat:∀ s∈([([]:aY),[116,97,117],[97,42],[98],[99,40,49,41],[115,101,110,100,40,49,44,50,41],[122,122]]:List aY),patM s=true/\s.length < 100:=by decide
theorem aPL (c:aY) {s1:Int} (s2:Int) (h:0<=s1/\s1<=1000000000) {L:List aY} (hL:∀ s∈L,s∈Nz) (hne:L≠[]):
  ∃ p s1' s2',tD c s1 s2 L=some (p,s1',s2')/\(patM p=true/\p.length < 200)/\s1<=s1'/\s1'<=s1+6:=by
 obtain ⟨v,x1,y1,e1,hv,a1,b1⟩:=text6 c s2 (s1:=s1) (by omega) hne
 obtain ⟨k,x2,y2,e2,hk,a2,b2⟩:=fH c (s1:=x1) y1 (n:=8) (by omega) (by omega)
 obtain ⟨p1,p2,p3,p4⟩:=Nz_pat v (hL v hv)
 unfold tD
 rw [e1,aA,show bR c (v,x1,y1).2.1 (v,x1,y1).2.2 8=_ from e2,aA]
 have hj:∃ p s1' s2',nZ (v,x1,y1) (k,x2,y2)=some (p,s1',s2')/\(patM p=true/\p.length < 200)/\s1<=s1'/\s1'<=s1+6:=⟨v,x2,y2,rfl,⟨p1,by omega⟩,by omega,by omega⟩
 by_cases h0:k=0
 ·rw [if_pos (by simpa using h0)]
  exact ⟨[],x2,y2,rfl,⟨rfl,by simp⟩,by omega,by omega⟩
 ·rw [if_neg (by simpa using h0)]
  by_cases h1:k=1
  ·rw [if_pos (by simpa using h1)]
   by_cases ht:v=dV
   ·rw [if_neg (by simp [ht];rfl)]
    exact hj
   ·rw [if_pos (by simpa [dV] using ht),show tC (v,x1,y1).1=some (gV 40 v).1 from name_eq v (by omega),aA]
    have hc:cat (gV 40 v).1 ([42]:aY)=some ((gV 40 v).1++[42]):=by
     unfold cat
     rw [if_pos (by simp [kP];omega)]
    rw [hc,aA]
    exact ⟨_,x2,y2,rfl,⟨p3 ht,by rw [List.length_append,List.length_singleton];omega⟩,by omega,by omega⟩
  ·rw [if_neg (by simpa using h1)]
   by_cases h2:k=2
   ·rw [if_pos (by simpa using h2)]
    obtain ⟨w,x3,y3,e3,hw,a3,b3⟩:=text6 c (s1:=x2) y2 (by omega) (l:=([([]:aY),[116,97,117],[97,42],[98],[99,40,49,41],[115,101,110,100,40,49,44,50,41],[122,122]]:List aY)) (by simp)
    rw [show gE c (k,x2,y2).2.1 (k,x2,y2).2.2 _=_ from e3,aA]
    obtain ⟨q1,q2⟩:=Ct_pat w hw
    exact ⟨w,x3,y3,rfl,⟨q1,by omega⟩,by omega,by omega⟩
   ·rw [if_neg (by simpa using h2)]
    exact hj
def mx:Nat->Nat
 |0=>1
 |d+1=>2 * mx d+1
theorem among6 (c:aY) {s1:Int} (s2:Int) (h:0<=s1/\s1<=100000000000) {l:List Int} (hl:l≠[]):∃ v s1' s2',eU c s1 s2 l=some (v,s1',s2')/\v∈l/\s1<=s1'/\s1'<=s1+2:=by
 have h1:1<=(l.length:Int):=by
  have:=List.length_pos_iff.2 hl
  omega
 obtain ⟨v,a,b,e,hv,h2,h3⟩:=fH c s2 h h1
 unfold eU
 rw [e,aA,aFd hv.1 (by omega),aA]
 exact ⟨_,_,_,rfl,List.getElem_mem _,h2,h3⟩
def aNv (c:aY) (L:List aY) (n:Nat) (deep:Nat):Prop:=∀ s1 s2:Int,0<=s1/\s1+20 * (mx deep:Int)<=1000000->
 ∃ (f:Fm) (s1' s2':Int),gU n c s1 s2 L (deep:Int)=some (f.list,s1',s2')/\(f.ok/\f.fd/\f.ht<=deep/\f.sz<=mx deep)/\s1<=s1'/\s1'<=s1+20 * (mx deep:Int)
theorem mx_le:∀ d,d<=3->mx d<=15:=by decide
section
variable {c:aY} {L:List aY}
theorem mx_pos:∀ d,1<=mx d
 |0=>Nat.le_refl _
 |d+1=>by simp [mx]
theorem aNw {n d:Nat} (hd:d<=3) (ih:∀ d',d'+1=d->aNv c L n d') {kind:Int} (hk:0<=kind/\kind<=5) (hk0:d=0->kind<=1) {s1:Int} (s2:Int) (h:0<=s1/\s1+20 * ((mx d:Int) - 1)<=1000000) (l:aY) (b:Bool)
  (hl:kind=4\/kind=5->patM l=true/\l.length < 200) (hl0:¬ (kind=4\/kind=5)->l=[]/\b=false):
  ∃ (f:Fm) (s1' s2':Int),oT (gU n) c L (d:Int) kind s1 s2 l b=some (f.list,s1',s2')/\(f.ok/\f.fd/\f.ht<=d/\f.sz<=mx d)/\s1<=s1'/\s1'<=s1+20 * ((mx d:Int) - 1):=by
 unfold oT
 have hmp:=mx_pos d
 by_cases c0:kind=0\/kind=1
 ·have ha:tR kind=some 0:=by
   unfold tR oK
   rcases c0 with c0|c0<;>simp [c0]
  obtain ⟨q1,q2⟩:=hl0 (by omega)
  rw [ha,aA,aBO (r:=([⟨kind,0,l,b⟩],s1,s2)) (by unfold kF;rw [if_neg (by simp)]),aA]
  refine ⟨.at0 ⟨kind,0,l,b⟩,s1,s2,rfl,⟨?_,trivial,by simp [Fm.ht],hmp⟩,by omega,by omega⟩
  simp only [Fm.ok]
  exact ⟨c0,q1,trivial,q2⟩
 ·obtain ⟨d',rfl⟩:∃ d',d=d'+1:=by
   rcases d with _|d'
   ·have:=hk0 rfl;omega
   ·exact ⟨d',rfl⟩
  have ih:=ih d' rfl
  have hm:=mx_le d' (by omega)
  have hmx:(mx (d'+1):Int)=2 * (mx d':Int)+1:=by simp [mx]
  rw [hmx] at h ⊢
  have hwr:wr (((d'+1:Nat):Int) - 1)=(d':Int):=by rw [dP (by omega) (by omega)];omega
  obtain ⟨x,a1,a2,e1,⟨k1,k2,k3,k4⟩,g1,g2⟩:=ih s1 s2 ⟨h.1,by omega⟩
  have hxl:=x.len
  by_cases c4:kind=4\/kind=5
  ·have ha:tR kind=some 1:=by
    unfold tR oK vA
    rcases c4 with c4|c4<;>simp [c4]
   obtain ⟨q1,q2⟩:=hl c4
   rw [ha,aA,yD (s':=(a1,a2,[⟨kind,0,l,b⟩]++x.list,0)) (by
    unfold kF
    rw [if_pos (by simp),hwr,e1,aA,dK (by simp [kP];omega),aA]
    rfl),aBO (r:=([⟨kind,0,l,b⟩]++x.list,a1,a2)) (by unfold kF;rw [if_neg (by simp)]),aA]
   refine ⟨.at1 ⟨kind,0,l,b⟩ x,a1,a2,rfl,⟨?_,?_,by simp only [Fm.ht];omega,by simp only [Fm.sz,mx];omega⟩,g1,by omega⟩
   ·simp only [Fm.ok]
    exact ⟨c4,by show l.length<=1000;omega,k1⟩
   ·simp only [Fm.fd]
    exact ⟨⟨trivial,by rw [ipatM (by omega),q1]⟩,k2⟩
  ·have c2:kind=2\/kind=3:=by omega
   have ha:tR kind=some 2:=by
    unfold tR oK vA
    rcases c2 with c2|c2<;>simp [c2]
   obtain ⟨q1,q2⟩:=hl0 c4
   obtain ⟨y,b1,b2,e2,⟨m1,m2,m3,m4⟩,n1,n2⟩:=ih a1 a2 ⟨by omega,by omega⟩
   have hyl:=y.len
   rw [ha,aA,yD (s':=(a1,a2,[⟨kind,0,l,b⟩]++x.list,1)) (by
    unfold kF
    rw [if_pos (by simp),hwr,e1,aA,dK (by simp [kP];omega),aA]
    rfl),yD (s':=(b1,b2,[⟨kind,0,l,b⟩]++x.list++y.list,0)) (by
    unfold kF
    rw [if_pos (by simp),hwr,e2,aA,dK (by simp [kP];omega),aA]
    rfl),aBO (r:=([⟨kind,0,l,b⟩]++x.list++y.list,b1,b2)) (by unfold kF;rw [if_neg (by simp)]),aA]
   refine ⟨.at2 ⟨kind,0,l,b⟩ x y,b1,b2,by simp [Fm.list];rfl,⟨?_,?_,by simp only [Fm.ht];omega,by simp only [Fm.sz,mx];omega⟩,by omega,by omega⟩
   ·simp only [Fm.ok]
    exact ⟨c2,q1,trivial,q2,k1,m1⟩
   ·simp only [Fm.fd]
    exact ⟨k2,m2⟩
theorem deep_ok (hL:∀ s∈L,s∈Nz) (hne:L≠[]):∀ (d n:Nat),d<=3->d < n->aNv c L n d:=by
 intro d
 induction d with
 |zero=>
  intro n hd hn s1 s2 h
  obtain ⟨n',rfl⟩:∃ n',n=n'+1:=⟨n - 1,by omega⟩
  show ∃ (f:Fm) (s1' s2':Int),nT (gU n') c s1 s2 L ((0:Nat):Int)=_/\_
  have hm0:(mx 0:Int)=1:=rfl
  rw [hm0] at h ⊢
  unfold nT
  obtain ⟨v,x1,y1,e1,hv,a1,b1⟩:=among6 c (s1:=s1) s2 (by omega) (l:=([0,1,2,3,4,4,5,5]:List Int)) (by simp)
  obtain ⟨k,x2,y2,e2,hk,a2,b2⟩:=fH c (s1:=x1) y1 (n:=2) (by omega) (by omega)
  rw [e1,aA,if_pos (by simp),show bR c (v,x1,y1).2.1 (v,x1,y1).2.2 2=_ from e2,aA]
  unfold oU kG
  rw [if_neg (by simp;omega),if_neg (by simp;omega)]
  obtain ⟨f,p1,p2,g1,g2,g3,g4⟩:=aNw (c:=c) (L:=L) (n:=n') (d:=0) (by omega) (fun d' h=>by omega) (kind:=k) (by omega) (fun _=>by omega) (s1:=x2) y2 ⟨by omega,by rw [hm0];omega⟩ [] false (fun h=>by omega) (fun _=>⟨rfl,rfl⟩)
  rw [hm0] at g4
  exact ⟨f,p1,p2,g1,g2,by omega,by omega⟩
 |succ d ih=>
  intro n hd hn s1 s2 h
  obtain ⟨n',rfl⟩:∃ n',n=n'+1:=⟨n - 1,by omega⟩
  have ih':=ih n' (by omega) (by omega)
  have hmp:=mx_pos (d+1)
  show ∃ (f:Fm) (s1' s2':Int),nT (gU n') c s1 s2 L ((d+1:Nat):Int)=_/\_
  unfold nT
  obtain ⟨v,x1,y1,e1,hv,a1,b1⟩:=among6 c (s1:=s1) s2 (by omega) (l:=([0,1,2,3,4,4,5,5]:List Int)) (by simp)
  have hv':0<=v/\v<=5:=by
   simp only [List.mem_cons,List.not_mem_nil,or_false] at hv
   omega
  rw [e1,aA,if_neg (by simp;omega)]
  have hih:∀ d',d'+1=d+1->aNv c L n' d':=fun d' h=>by
   have:d'=d:=by omega
   subst this;exact ih'
  unfold oU
  by_cases c4:v=4\/v=5
  ·have hj:∃ (f:Fm) (s1' s2':Int),kG (gU n') c L ((d+1:Nat):Int) x1 y1 v true=some (f.list,s1',s2')/\(f.ok/\f.fd/\f.ht<=d+1/\f.sz<=mx (d+1))/\s1<=s1'/\s1'<=s1+20 * (mx (d+1):Int):=by
    unfold kG
    obtain ⟨p,x2,y2,e2,⟨hp,hpl⟩,a2,b2⟩:=aPL c (s1:=x1) y1 (by omega) hL hne
    obtain ⟨w,x3,y3,e3,a3,b3⟩:=aBL c (s1:=x2) (n:=6) y2 (by omega) (by omega)
    rw [if_pos rfl,e2,aA,show eI c (p,x2,y2).2.1 (p,x2,y2).2.2 6=_ from e3,aA]
    obtain ⟨f,p1,p2,g1,g2,g3,g4⟩:=aNw (c:=c) (L:=L) (n:=n') (d:=d+1) hd hih (kind:=v) hv' (fun h=>by omega) (s1:=x3) y3 ⟨by omega,by omega⟩ p w (fun _=>⟨hp,hpl⟩) (fun h=>absurd c4 h)
    exact ⟨f,p1,p2,g1,g2,by omega,by omega⟩
   rcases c4 with c4|c4
   ·rw [if_pos (by simpa using c4)]
    exact hj
   ·rw [if_neg (by simp [c4]),show ((v,x1,y1).1 == (5:Int))=true by simpa using c4]
    exact hj
  ·rw [if_neg (by simp;omega),show ((v,x1,y1).1 == (5:Int))=false by simp;omega]
   unfold kG
   rw [if_neg (by simp)]
   obtain ⟨f,p1,p2,g1,g2,g3,g4⟩:=aNw (c:=c) (L:=L) (n:=n') (d:=d+1) hd hih (kind:=v) hv' (fun h=>by omega) (s1:=x1) y1 ⟨by omega,by omega⟩ [] false (fun h=>absurd h c4) (fun _=>⟨rfl,rfl⟩)
   exact ⟨f,p1,p2,g1,g2,by omega,by omega⟩
theorem aOM {t:cB} (hL:∀ s∈t.L,s∈Nz) (hne:t.L≠[]):∃ f:Fm,aCf c t=some f.list/\f.ok/\f.fd/\f.ht<=3/\f.sz<=15:=by
 unfold aCf aFU
 rw [aA]
 unfold aFn
 obtain ⟨k,x2,y2,e2,hk,a2,b2⟩:=fH c (s1:=0) 0 (n:=3) (by omega) (by omega)
 rw [show bR c ((0:Int),(0:Int)).1 ((0:Int),(0:Int)).2 3=_ from e2,aA]
 have hw:wr (1+(k,x2,y2).1)=((k.toNat+1:Nat):Int):=by
  show wr (1+k)=_
  rw [dP (by omega) (by omega)];omega
 rw [hw]
 have hm:=mx_le (k.toNat+1) (by omega)
 obtain ⟨f,p1,p2,g1,⟨g2,g3,g4,g5⟩,_⟩:=deep_ok (c:=c) hL hne (k.toNat+1) 100000 (by omega) (by omega) x2 y2 ⟨by omega,by omega⟩
 unfold aFH
 rw [show gU 100000 c (k,x2,y2).2.1 (k,x2,y2).2.2 t.L _=_ from g1,aA,aA]
 exact ⟨f,rfl,g2,g3,by omega,by omega⟩
end
end Gv
set_option linter.unusedSimpArgs false
set_option linter.unusedVariables false
namespace Gv
open Go
section
variable {t:cB} {cc:Nat}
theorem cycles_ok (h:Drn cc t):∃ p,aAH t=some p/\jE t p:=by
 have h1:=h.ok.1
 have h3:=h.st
 have hu:=aNr h.ok
 have hz:mkz t.N (0:Int)=some (List.replicate t.N.toNat 0):=by
  unfold mkz
  rw [if_pos ⟨by omega,by unfold kP;omega⟩]
 have hp0:jE t (List.replicate t.N.toNat (0:Int)):=⟨by simp,fun z hz=>by rw [List.mem_replicate] at hz;omega⟩
 unfold aAH
 rw [hz,aA]
 obtain ⟨rows,e1,r1,r2⟩:=iU (step:=fun s:List (List Bool) × Int=>nJ t (List.replicate t.N.toNat 0) s.1 s.2) (n:=t.N) (by omega) (fun k R=>R.length=k/\∀ r∈R,r.length=t.N.toNat) (fun R=>R.length=t.N.toNat/\∀ r∈R,r.length=t.N.toNat) (fun R k k0 k1 hR=>by
  show ∃ m',nJ t (List.replicate t.N.toNat 0) R k=_/\_
  obtain ⟨al,g1,g2⟩:=aOE hu hp0 (k:=k) ⟨k0,k1⟩
  unfold nJ
  rw [if_pos (by simpa using k1),g1,aA,dK (by rw [hR.1];simp only [List.length_singleton,kP];omega),aA,kO k0 k1 (by omega)]
  refine ⟨_,rfl,by rw [List.length_append,hR.1];rfl,fun r hr=>?_⟩
  rcases List.mem_append.1 hr with hr|hr
  ·exact hR.2 r hr
  ·rw [List.mem_singleton] at hr;subst hr;exact g2) (fun R hR=>⟨by
  show nJ t (List.replicate t.N.toNat 0) R t.N=_
  unfold nJ
  rw [if_neg (by simp)],hR⟩) [] ⟨rfl,fun r hr=>by cases hr⟩
 rw [e1,aA]
 unfold zX
 have rix:∀ {i j:Int},(0<=i/\i < t.N)->(0<=j/\j < t.N)->∃ r b,ix rows i=some r/\ix r j=some b:=fun {i j} hi hj=>by
  obtain ⟨r,hr⟩:=aIt (m:=rows) r1 hi
  have hm:r∈rows:=by
   unfold ix at hr
   rw [if_pos hi.1] at hr
   exact List.mem_of_getElem? hr
  obtain ⟨b,hb⟩:=aIt (m:=r) (r2 r hm) hj
  exact ⟨r,b,hr,hb⟩
 obtain ⟨p,e2,g1⟩:=eA (step:=fun s:List Int × Int × Int=>jB t rows s.1 s.2.1 s.2.2) t.N.toNat (fun k (q:List Int × Int)=>(q.1,q.2,(k:Int))) (fun k q=>q.1.length=k/\(0<=q.2/\q.2<=k)/\∀ z∈q.1,0<=z/\z < q.2)
  (fun p:List Int=>jE t p) (fun k q hk hI=>by
  obtain ⟨out,bl⟩:=q
  obtain ⟨i1,i2,i3⟩:=hI
  simp only at i1 i2 i3
  have hkt:(k:Int) < t.N:=by omega
  obtain ⟨n,f1,f2⟩:=oV (step:=fun s:Int × Int=>sF rows out (k:Int) s.1 s.2) (fun s=>(0<=s.2/\s.2<=(k:Int))/\(s.1 < 0\/(0<=s.1/\s.1 < bl))) (fun s=>((k:Int) - s.2).toNat) (fun n=>n < 0\/(0<=n/\n < bl)) (fun s hs=>by
   obtain ⟨n,j⟩:=s
   obtain ⟨⟨j0,j1⟩,hn⟩:=hs
   simp only at j0 j1 hn
   show (∃ s',sF rows out (k:Int) n j=_/\_)\/∃ r,sF rows out (k:Int) n j=_/\_
   unfold sF wC
   by_cases hj:j < (k:Int)
   ·rw [if_pos (by simpa using hj)]
    by_cases hneg:n < 0
    ·rw [if_pos (by simpa using hneg)]
     obtain ⟨ra,ba,ha1,ha2⟩:=rix (i:=(k:Int)) (j:=j) ⟨by omega,hkt⟩ ⟨j0,by omega⟩
     obtain ⟨rb,bb,hb1,hb2⟩:=rix (i:=j) (j:=(k:Int)) ⟨j0,by omega⟩ ⟨by omega,hkt⟩
     have hw:wr (j+1)=j+1:=kO j0 hj (by omega)
     have hlt:j.toNat < out.length:=by omega
     have hox:ix out j=some out[j.toNat]:=by unfold ix;rw [if_pos j0,List.getElem?_eq_getElem hlt]
     have hz:=i3 _ (List.getElem_mem hlt)
     rw [ha1,aA,ha2,aA]
     unfold aBl wB
     rw [hw]
     left
     cases ba with
     |false=>rw [if_neg (by simp),if_neg (by simp)];exact ⟨_,rfl,⟨⟨by show 0<=j+1;omega,by show j+1<=(k:Int);omega⟩,hn⟩,by show ((k:Int) - (j+1)).toNat < ((k:Int) - j).toNat;omega⟩
     |true=>
      rw [if_pos rfl,hb1,aA,hb2,aA]
      cases bb with
      |false=>rw [if_neg (by simp)];exact ⟨_,rfl,⟨⟨by show 0<=j+1;omega,by show j+1<=(k:Int);omega⟩,hn⟩,by show ((k:Int) - (j+1)).toNat < ((k:Int) - j).toNat;omega⟩
      |true=>rw [if_pos rfl,hox,aA];exact ⟨_,rfl,⟨⟨by show 0<=j+1;omega,by show j+1<=(k:Int);omega⟩,.inr hz⟩,by show ((k:Int) - (j+1)).toNat < ((k:Int) - j).toNat;omega⟩
    ·rw [if_neg (by simpa using hneg)]
     exact .inr ⟨n,rfl,hn⟩
   ·rw [if_neg (by simpa using hj),if_neg (by simp)]
    exact .inr ⟨n,rfl,hn⟩) (s:=(-1,0)) ⟨⟨by simp,by show (0:Int)<=(k:Int);omega⟩,.inl (by decide)⟩
  have hw:wr ((k:Int)+1)=((k+1:Nat):Int):=cS hk (by omega)
  have hap:∀ n:Int,rE out [n]=some (out++[n]):=fun n=>dK (by rw [i1];simp only [List.length_singleton,kP];omega)
  have e3:jB t rows out bl (k:Int)=sE out bl (k:Int) n:=by
   unfold jB
   rw [if_pos (by simpa using hkt),f1,aA]
  by_cases hneg:n < 0
  ·refine ⟨(out++[bl],bl+1),?_,by simp [i1],⟨by show 0<=bl+1;omega,by show bl+1<=((k+1:Nat):Int);omega⟩,fun z hz=>?_⟩
   ·show jB t rows out bl (k:Int)=_
    rw [e3]
    unfold sE wA vZ
    rw [if_pos (by simpa using hneg),hap,aA,hw,dP (by omega) (by omega)]
   ·show 0<=z/\z < bl+1
    rcases List.mem_append.1 hz with hz|hz
    ·have:=i3 z hz;omega
    ·rw [List.mem_singleton] at hz;omega
  ·have hn:0<=n/\n < bl:=by rcases f2 with f2|f2<;>omega
   refine ⟨(out++[n],bl),?_,by simp [i1],⟨by show 0<=bl;omega,by show bl<=((k+1:Nat):Int);omega⟩,fun z hz=>?_⟩
   ·show jB t rows out bl (k:Int)=_
    rw [e3]
    unfold sE wA vZ
    rw [if_neg (by simpa using hneg),hap,aA,hw]
   ·show 0<=z/\z < bl
    rcases List.mem_append.1 hz with hz|hz
    ·exact i3 z hz
    ·rw [List.mem_singleton] at hz;omega) (fun q hI=>by
  obtain ⟨out,bl⟩:=q
  obtain ⟨i1,i2,i3⟩:=hI
  refine ⟨out,?_,i1,fun z hz=>by have:=i3 z hz;simp only at this i2;omega⟩
  show jB t rows out bl ((t.N.toNat:Nat):Int)=_
  unfold jB
  rw [if_neg (by simp;omega)]) t.N.toNat 0 ([],0) (by omega) ⟨rfl,by simp,fun z hz=>by cases hz⟩
 have e4:loop (fun s:List Int × Int × Int=>jB t rows s.1 s.2.1 s.2.2) (([]:List Int),0,0)=some p:=e2
 rw [e4,aA]
 exact ⟨p,rfl,g1⟩
end
end Gv
set_option linter.unusedSimpArgs false
set_option linter.unusedVariables false
namespace Gv
open Go
def Ny:List aY:=Nm++[[116,97,117],[97],[122,122],[65],[]]
theorem Ny_Nz:∀ s∈Ny,zU s=true->s∈Nz:=by decide
theorem text62 (c:aY) {s1:Int} (s2:Int) (h:0<=s1/\s1<=100000000000) {l:List aY} (hl:l≠[]):∃ v s1' s2',gE c s1 s2 l=some (v,s1',s2')/\v∈l/\s1<=s1'/\s1'<=s1+2:=by
 have h1:1<=(l.length:Int):=by
  have:=List.length_pos_iff.2 hl
  omega
 obtain ⟨v,a,b,e,hv,h2,h3⟩:=fH c s2 h h1
 unfold gE
 rw [e,aA,aFd hv.1 (by omega),aA]
 exact ⟨_,_,_,rfl,List.getElem_mem _,h2,h3⟩
theorem own6 {t:cB} (h:lE 500 t):aFZ t=some t:=by
 have h1:=h.1
 have h3:=h.2.2
 unfold aFZ
 rw [dK (by simp [kP];omega),aA,dK (by simp [kP];omega),aA,List.nil_append,List.nil_append]
theorem bend6 (c:aY) {s1:Int} (s2:Int) (h:0<=s1/\s1<=1000000000) {t:cB} (ht:cN t/\lE 500 t) (hN:∀ s∈t.L,s∈Nm):∃ u s1' s2',qT c s1 s2 t=some (u,s1',s2')/\(lE 500 u/\∀ s∈u.L,s∈Ny)/\s1<=s1'/\s1'<=s1+10:=by
 have g2:∀ s∈t.L,s∈Ny:=fun s hs=>List.mem_append_left _ (hN s hs)
 have nl:∀ s∈Ny,s.length<=500:=by decide
 have f1:t.L.length<=12:=ht.1.2.2.1.2.1
 have f3:t.E.length<=300:=ht.1.2.2.2.1
 have hl0:1<=t.L.length:=ht.1.2.2.1.1
 obtain ⟨b,x,y,e,i1,i2⟩:=aBL c s2 (s1:=s1) (n:=8) (by omega) (by omega)
 obtain ⟨v,x',y',e',gv,j1,j2⟩:=fH c y (s1:=x) (n:=8) (by omega) (by omega)
 have hend:∀ (i j:Int) (L:List aY) (E:List Edge) (p q:Int),L.length<=500->(∀ s∈L,s∈Ny)->E.length<=500->s1<=p->p<=s1+10->∃ u s1' s2',eH i j L E p q=some (u,s1',s2')/\(lE 500 u/\∀ s∈u.L,s∈Ny)/\s1<=s1'/\s1'<=s1+10:=
  fun i j L E p q k1 k2 k3 k4 k5=>⟨_,_,_,rfl,⟨⟨k1,fun s hs=>nl s (k2 s hs),k3⟩,k2⟩,k4,k5⟩
 unfold qT
 rw [own6 ht.2,aA,e,aA]
 by_cases q:(!b)=true
 ·rw [if_pos q];exact ⟨_,_,_,rfl,⟨ht.2,g2⟩,i1,by show x<=_;omega⟩
 rw [if_neg q]
 show ∃ u s1' s2',(ob (bR c x y 8) fun r46=>_)=_/\_
 rw [e',aA]
 show ∃ u s1' s2',(if (v == 0)=true then _ else _)=_/\_
 by_cases q0:(v == 0)=true
 ·rw [if_pos q0]
  obtain ⟨z,p,q,e3,_,k1,k2⟩:=aHT c y' (s1:=x') (l:=[0,-1,41,40,wr (t.N - 1)]) (by omega) (by simp)
  show ∃ u s1' s2',(ob (eU c x' y' _) fun r77=>_)=_/\_
  rw [e3,aA]
  exact hend _ _ _ _ _ _ (by omega) g2 (by omega) (by show s1<=p;omega) (by show p<=_;omega)
 rw [if_neg q0]
 by_cases q1:(v == 1)=true
 ·rw [if_pos q1]
  obtain ⟨z,p,q,e3,_,k1,k2⟩:=aHT c y' (s1:=x') (l:=[-1,t.N]) (by omega) (by simp)
  show ∃ u s1' s2',(ob (eU c x' y' _) fun r77=>_)=_/\_
  rw [e3,aA]
  exact hend _ _ _ _ _ _ (by omega) g2 (by omega) (by show s1<=p;omega) (by show p<=_;omega)
 rw [if_neg q1]
 by_cases q2:(v == 2)=true
 ·rw [if_pos q2]
  rw [aFd (by omega) (by omega),aA]
  have hst:st t.L 0 ([97]:aY)=some (t.L.set 0 [97]):=by
   unfold Gv.st
   rw [if_pos ⟨by omega,by omega⟩];rfl
  rw [hst,aA]
  refine hend _ _ _ _ _ _ (by rw [List.length_set];omega) (fun s hs=>?_) (by omega) (by show s1<=x';omega) (by show x'<=_;omega)
  rcases List.mem_or_eq_of_mem_set hs with hs|rfl
  ·exact g2 s hs
  ·decide
 rw [if_neg q2]
 by_cases q3:(v == 3)=true
 ·rw [if_pos q3]
  obtain ⟨z,p,q,e3,hz,k1,k2⟩:=text62 c y' (s1:=x') (l:=[[116,97,117],[97],[122,122],[65],[]]) (by omega) (by simp)
  show ∃ u s1' s2',(ob (gE c x' y' _) fun r77=>_)=_/\_
  rw [e3,aA,dK (by simp [kP];omega),aA]
  refine hend _ _ _ _ _ _ (by simp;omega) (fun s hs=>?_) (by omega) (by show s1<=p;omega) (by show p<=_;omega)
  rcases List.mem_append.1 hs with hs|hs
  ·exact g2 s hs
  ·rw [List.mem_singleton] at hs
   subst hs
   have:∀ s∈([[116,97,117],[97],[122,122],[65],[]]:List aY),s∈Ny:=by decide
   exact this _ hz
 rw [if_neg q3]
 have hno:∃ u s1' s2',eH t.N t.I t.L t.E x' y'=some (u,s1',s2')/\(lE 500 u/\∀ s∈u.L,s∈Ny)/\s1<=s1'/\s1'<=s1+10:=hend _ _ _ _ _ _ (by omega) g2 (by omega) (by omega) (by omega)
 by_cases q4:(v == 4)=true
 ·rw [if_pos q4]
  by_cases hp:(decide (0 < (t.E.length:Int)))=true
  ·rw [if_pos hp]
   have hp:0 < t.E.length:=by simpa using hp
   rw [aFd (by omega) (by omega),aA,dK (by simp [kP];omega),aA]
   exact hend _ _ _ _ _ _ (by omega) g2 (by simp;omega) (by show s1<=x';omega) (by show x'<=_;omega)
  ·rw [if_neg hp];exact hno
 rw [if_neg q4]
 by_cases q5:(v == 5)=true
 ·rw [if_pos q5]
  by_cases hp:(decide (0 < (t.E.length:Int)))=true
  ·rw [if_pos hp]
   have hp:0 < t.E.length:=by simpa using hp
   obtain ⟨a,p0,q0,e2,ga,m1,m2⟩:=fH c y' (s1:=x') (n:=(t.E.length:Int)) (by omega) (by omega)
   obtain ⟨z,p,q,e3,_,k1,k2⟩:=aHT c q0 (s1:=p0) (l:=[-1,(t.L.length:Int),0]) (by omega) (by simp)
   show ∃ u s1' s2',(ob (bR c x' y' (t.E.length:Int)) fun r=>_)=_/\_
   rw [e2,aA]
   show ∃ u s1' s2',(ob (eU c p0 q0 _) fun r77=>_)=_/\_
   rw [e3,aA,aFd (xs:=t.E) (j:=a) ga.1 (by omega),aA]
   unfold Gv.st
   rw [if_pos (by exact ⟨ga.1,by omega⟩),aA]
   exact hend _ _ _ _ _ _ (by omega) g2 (by rw [List.length_set];omega) (by show s1<=p;omega) (by show p<=_;omega)
  ·rw [if_neg hp];exact hno
 rw [if_neg q5]
 by_cases q6:(v == 6)=true
 ·rw [if_pos q6]
  by_cases hp:(decide (0 < (t.E.length:Int)))=true
  ·rw [if_pos hp]
   have hp:0 < t.E.length:=by simpa using hp
   obtain ⟨a,p0,q0,e2,ga,m1,m2⟩:=fH c y' (s1:=x') (n:=(t.E.length:Int)) (by omega) (by omega)
   obtain ⟨z,p,q,e3,_,k1,k2⟩:=aHT c q0 (s1:=p0) (l:=[-1,t.N,0]) (by omega) (by simp)
   show ∃ u s1' s2',(ob (bR c x' y' (t.E.length:Int)) fun r=>_)=_/\_
   rw [e2,aA]
   show ∃ u s1' s2',(ob (eU c p0 q0 _) fun r77=>_)=_/\_
   rw [e3,aA,aFd (xs:=t.E) (j:=a) ga.1 (by omega),aA]
   unfold Gv.st
   rw [if_pos (by exact ⟨ga.1,by omega⟩),aA]
   exact hend _ _ _ _ _ _ (by omega) g2 (by rw [List.length_set];omega) (by show s1<=p;omega) (by show p<=_;omega)
  ·rw [if_neg hp];exact hno
 rw [if_neg q6]
 by_cases q7:(v == 7)=true
 ·rw [if_pos q7]
  exact hend _ _ _ _ _ _ (by simp) (by simp) (by omega) (by show s1<=x';omega) (by show x'<=_;omega)
 rw [if_neg q7]
 exact hno
theorem del6 {E:List Edge} (hl:E.length<=1000) {v:Int} (hv:0<=v/\v < E.length):∃ r1 r2 F,slc E 0 v=some r1/\slc E (wr (v+1)) (E.length:Int)=some r2/\rE r1 r2=some F/\F.Sublist E:=by
 refine ⟨E.take v.toNat,E.drop (v.toNat+1),E.take v.toNat++E.drop (v.toNat+1),?_,?_,dK (by simp only [List.length_take,List.length_drop,kP];omega),?_⟩
 ·unfold slc
  rw [if_pos ⟨by decide,hv.1,by omega⟩]
  simp
 ·rw [dP (by omega) (by omega)]
  unfold slc
  rw [if_pos ⟨by omega,by omega,by omega⟩,show (v+1).toNat=v.toNat+1 by omega,List.take_of_length_le (by simp)]
 ·have:(E.take v.toNat++E.drop (v.toNat+1)).Sublist (E.take v.toNat++E.drop v.toNat):=by
   refine List.Sublist.append_left ?_ _
   rw [show E.drop (v.toNat+1)=(E.drop v.toNat).drop 1 by rw [List.drop_drop]]
   exact List.drop_sublist _ _
  rwa [List.take_append_drop] at this
theorem Drn.fit500 {cc:Nat} {t:cB} (h:Drn cc t):cN t/\lE 500 t:=by
 have h1:=h.ok.2.2.1.2.1
 have h2:=h.ok.2.2.2.1
 refine ⟨h.ok,by omega,fun s hs=>?_,by omega⟩
 have:=Nm_len s (h.nm s hs)
 omega
theorem aLz {t:cB} (hv:cN t) (h:∀ s∈t.L,s∈Ny):∀ s∈t.L,s∈Nz:=fun s hs=>Ny_Nz s (h s hs) (by
 obtain ⟨i,hi,rfl⟩:=List.mem_iff_getElem.1 hs
 have hl:=hv.2.2.1
 by_cases h0:i=0
 ·subst h0
  rw [hl.2.2.1 hi];exact aJF
 ·exact (hl.2.2.2 i (by omega) hi).1)
def Bnt (t:cB):Prop:=lE 500 t/\∀ s∈t.L,s∈Ny
section
variable {c:aY} {a b:cB} {x y:Int}
theorem two_j1 {ca cb:Nat} (ha:Drn ca a) (hb:Drn cb b) {s1:Int} (s2:Int) (hs:0<=s1/\s1<=100000):
  ∃ a' b' s1' s2',qB c (a,x,y) b.N b.I b.L s1 s2 b.E=some (a',b',s1',s2')/\Bnt a'/\Bnt b'/\s1<=s1'/\s1'<=s1+20:=by
 obtain ⟨u,p,q,e1,g1,g2,g3⟩:=bend6 c s2 (s1:=s1) (by omega) ha.fit500 ha.nm
 obtain ⟨v,p',q',e2,k1,k2,k3⟩:=bend6 c q (s1:=p) (by omega) hb.fit500 hb.nm
 unfold qB
 rw [show qT c s1 s2 (a,x,y).1=_ from e1,aA,show qT c (u,p,q).2.1 (u,p,q).2.2 ⟨b.N,b.I,b.L,b.E⟩=_ from e2,aA]
 exact ⟨u,v,p',q',rfl,g1,k1,by omega,by omega⟩
theorem two_j3 {ca cb:Nat} (ha:Drn ca a) (hb:Drn cb b) {s1:Int} (s2:Int) (hs:0<=s1/\s1<=90000):
  ∃ a' b' s1' s2',qD c (a,x,y) s1 s2 b.N b.I b.L b.E=some (a',b',s1',s2')/\Bnt a'/\Bnt b'/\s1<=s1'/\s1'<=s1+30:=by
 obtain ⟨w,p,q,e1,g1,g2⟩:=aBL c s2 (s1:=s1) (n:=5) (by omega) (by omega)
 have hj:∀ v:Bool,(v=true->0 < b.E.length)->∃ a' b' s1' s2',qC c (a,x,y) b.N b.I b.L b.E p q v=some (a',b',s1',s2')/\Bnt a'/\Bnt b'/\s1<=s1'/\s1'<=s1+30:=fun v hv=>by
  have hlen:=hb.ok.2.2.2.1
  unfold qC
  cases v with
  |true=>
   have hpos:=hv rfl
   obtain ⟨i,p2,q2,e2,hi,k1,k2⟩:=fH c q (s1:=p) (n:=(b.E.length:Int)) (by omega) (by omega)
   obtain ⟨r1,r2,F,d1,d2,d3,d4⟩:=del6 (E:=b.E) (by omega) hi
   have hF:Drn cb ⟨b.N,b.I,b.L,F⟩:=by
    have hl:=d4.length_le
    exact ⟨⟨hb.ok.1,hb.ok.2.1,hb.ok.2.2.1,aLn (by show F.length<=300;omega) ((aJj hb.ok).sublist d4) fun e he=>aCC hb.ok (d4.subset he)⟩,hb.nm,hb.st,Nat.le_trans hl hb.ed⟩
   obtain ⟨a',b',s1',s2',f1,f2,f3,f4,f5⟩:=two_j1 (c:=c) (x:=x) (y:=y) ha hF (s1:=p2) q2 (by omega)
   rw [if_pos rfl,e2,aA,show slc b.E 0 (i,p2,q2).1=_ from d1,aA,show slc b.E (wr ((i,p2,q2).1+1)) (b.E.length:Int)=_ from d2,aA,d3,aA]
   exact ⟨a',b',s1',s2',f1,f2,f3,by omega,by omega⟩
  |false=>
   rw [if_neg (by simp)]
   obtain ⟨a',b',s1',s2',f1,f2,f3,f4,f5⟩:=two_j1 (c:=c) (x:=x) (y:=y) ha hb (s1:=p) q (by omega)
   exact ⟨a',b',s1',s2',f1,f2,f3,by omega,by omega⟩
 unfold qD
 rw [e1,aA]
 cases w with
 |true=>rw [if_pos rfl];exact hj _ (fun h=>by simpa using h)
 |false=>rw [if_neg (by simp)];exact hj _ (fun h=>by cases h)
theorem two_j5 {ca cb:Nat} (ha:Drn ca a) (hb:Drn cb b) (h9:b.N<=9) (hcb:cb<=280) {s1:Int} (s2:Int) (hs:0<=s1/\s1<=80000):
  ∃ a' b' s1' s2',jI c (a,x,y) s1 s2 b.N b.I b.L b.E=some (a',b',s1',s2')/\Bnt a'/\Bnt b'/\s1<=s1'/\s1'<=s1+40:=by
 obtain ⟨w,p,q,e1,g1,g2⟩:=aBL c s2 (s1:=s1) (n:=4) (by omega) (by omega)
 have h1:=hb.ok.1
 have h2:=hb.ok.2.1
 have hed:=hb.ed
 have hlab:=hb.ok.2.2.1
 unfold jI
 rw [e1,aA]
 have hno:∃ a' b' s1' s2',nM c (a,x,y) b.N b.I b.L b.E p q false=some (a',b',s1',s2')/\Bnt a'/\Bnt b'/\s1<=s1'/\s1'<=s1+40:=by
  unfold nM
  rw [if_neg (by simp)]
  obtain ⟨a',b',s1',s2',f1,f2,f3,f4,f5⟩:=two_j3 (c:=c) (x:=x) (y:=y) ha hb (s1:=p) q (by omega)
  exact ⟨a',b',s1',s2',f1,f2,f3,by omega,by omega⟩
 cases w with
 |false=>rw [if_neg (by simp)];exact hno
 |true=>
  rw [if_pos rfl,show decide (b.N < 40)=true by simp;omega]
  unfold nM
  have hlen:(b.E++[(⟨b.N,0,b.I⟩:Edge)]).length=b.E.length+1:=by simp
  obtain ⟨t',m1,m2,m3,m4⟩:=aJm (T:=b.L) hb.nm (by have:=hlab.2.1;omega) (st:=b.N+1) (ini:=b.N) (by omega) (by omega) (edges:=b.E++[(⟨b.N,0,b.I⟩:Edge)]) (by omega) (fun e he=>by
   rcases List.mem_append.1 he with he|he
   ·have:=vD hb.ok he
    unfold lU at this
    exact ⟨by omega,by omega,this.2.2⟩
   ·rw [List.mem_singleton] at he
    subst he
    exact ⟨by show 0<=b.N/\b.N < b.N+1;omega,by show 0<=b.I/\b.I < b.N+1;omega,by show (0:Int)<=0/\(0:Int) < b.L.length;have:=hlab.1;omega⟩)
  rw [if_pos rfl,dK (by simp [kP];omega),aA,List.nil_append,dK (by simp [kP];omega),aA,dP (by omega) (by omega),m1,aA]
  obtain ⟨a',b',s1',s2',f1,f2,f3,f4,f5⟩:=two_j3 (c:=c) (x:=x) (y:=y) ha m2 (s1:=p) q (by omega)
  exact ⟨a',b',s1',s2',f1,f2,f3,by omega,by omega⟩
theorem two6:∃ a b s1' s2',xT c 0 0=some (a,b,s1',s2')/\Bnt a/\Bnt b/\0<=s1'/\s1'<=10000:=by
 obtain ⟨a,x,y,e,⟨ha,h6⟩,h1,h2⟩:=aMw c (s1:=0) 0 (by omega)
 obtain ⟨b,x',y',e',⟨hb,hb6⟩,h1',h2'⟩:=aMw c (s1:=x) y (by omega)
 obtain ⟨v,x2,y2,e2,g,i,j⟩:=fH c y' (s1:=x') (n:=6) (by omega) (by omega)
 unfold xT
 rw [e,aA,show wQ c (a,x,y).2.1 (a,x,y).2.2=_ from e',aA,show bR c (b,x',y').2.1 (b,x',y').2.2 6=_ from e2,aA]
 have hfin:∀ {cb:Nat} {t:cB},Drn cb t->t.N<=9->cb<=280->∀ s1 s2:Int,0<=s1/\s1<=5000->∃ a' b' s1' s2',jI c (a,x,y) s1 s2 t.N t.I t.L t.E=some (a',b',s1',s2')/\Bnt a'/\Bnt b'/\0<=s1'/\s1'<=10000:=fun {cb t} ht h9 hcb s1 s2 hs=>by
  obtain ⟨a',b',s1',s2',f1,f2,f3,f4,f5⟩:=two_j5 (c:=c) (x:=x) (y:=y) ha ht h9 hcb (s1:=s1) s2 (by omega)
  exact ⟨a',b',s1',s2',f1,f2,f3,by omega,by omega⟩
 have hj6:∀ w:Bool,∃ a' b' s1' s2',qE c (a,x,y) (b,x',y') (v,x2,y2) w=some (a',b',s1',s2')/\Bnt a'/\Bnt b'/\0<=s1'/\s1'<=10000:=fun w=>by
  unfold qE
  cases w with
  |true=>
   obtain ⟨d,p,q,e3,g3,g4⟩:=aBL c y2 (s1:=x2) (n:=2) (by omega) (by omega)
   obtain ⟨t',e4,h4,h5⟩:=aPG (by omega) ha d
   rw [if_pos rfl,show eI c (v,x2,y2).2.1 (v,x2,y2).2.2 2=_ from e3,aA,show aBY (a,x,y).1 (d,p,q).1=_ from e4,aA]
   exact hfin h4 (by omega) (by omega) _ _ (by show 0<=p/\p<=5000;omega)
  |false=>
   rw [if_neg (by simp)]
   by_cases v2:v=2
   ·obtain ⟨t',p,q,e3,⟨h3,h8⟩,g3,g4⟩:=like_okB c ha h6 (s1:=x2) y2 (by omega)
    have h9:t'.N<=9:=by omega
    rw [if_pos (by simpa using v2),show uX c (v,x2,y2).2.1 (v,x2,y2).2.2 (a,x,y).1=_ from e3,aA]
    exact hfin h3 h9 (by omega) _ _ (by show 0<=p/\p<=5000;omega)
   ·rw [if_neg (by simpa using v2)]
    by_cases v3:v=3
    ·obtain ⟨cy,e3,h3⟩:=cycles_ok ha
     obtain ⟨d,p,q,e4,g3,g4⟩:=aBL c y2 (s1:=x2) (n:=2) (by omega) (by omega)
     obtain ⟨t',e5,h5,h7⟩:=aMz (by omega) ha h3 d
     rw [if_pos (by simpa using v3),show aAH (a,x,y).1=_ from e3,aA,show eI c (v,x2,y2).2.1 (v,x2,y2).2.2 2=_ from e4,aA,show rG (a,x,y).1 cy (d,p,q).1=_ from e5,aA]
     exact hfin h5 (by omega) (by omega) _ _ (by show 0<=p/\p<=5000;omega)
    ·rw [if_neg (by simpa using v3)]
     exact hfin hb (by omega) (by omega) _ _ (by show 0<=x2/\x2<=5000;omega)
 split<;>exact hj6 _
end
end Gv
set_option linter.unusedSimpArgs false
set_option linter.unusedVariables false
namespace Gv
open Go
section
variable {u:cB}
structure Mod6 (u:cB):Prop where
 big:Big u
 st:u.N<=80
 lab:1<=u.L.length/\u.L.length<=8
theorem still_len (h:Mod6 u):∃ m,tO u=some m/\m.length=(u.N * u.N).toNat:=by
 have h1:=h.big.st
 have h2:=h.st
 have h3:=h.big.ed
 have hq:=aLu (s:=u.N) (x:=u.N - 1) (y:=0) (by omega) (by omega) (by omega)
 have hsq:0<=u.N * u.N/\u.N * u.N<=6400:=⟨Int.mul_nonneg (by omega) (by omega),Int.le_trans (Int.mul_le_mul h2 h2 (by omega) (by omega)) (by decide)⟩
 have hm:mkz (wr (u.N * u.N)) false=some (List.replicate (u.N * u.N).toNat false):=by
  rw [dP (by omega) (by omega)]
  unfold mkz
  rw [if_pos ⟨by omega,by unfold kP;omega⟩]
 unfold tO
 rw [hm,aA]
 obtain ⟨m1,e1,e2⟩:=iU (step:=fun q:List Bool × Int=>iO u q.1 q.2) (n:=(u.E.length:Int)) (by omega) (fun _ m=>m.length=(u.N * u.N).toNat) (fun m=>m.length=(u.N * u.N).toNat) (fun m i h0 h1' hm=>by
  show ∃ m',iO u m i=_/\_
  have hi:i.toNat < u.E.length:=by omega
  obtain ⟨b1,b2,_⟩:=h.big.inn _ (List.getElem_mem hi)
  unfold lU at b1 b2
  obtain ⟨b,hb'⟩:=aDM (m:=m) (s:=u.N) (by omega) hm b1 b2
  obtain ⟨m',g2,g3⟩:=sq_st (m:=m) (s:=u.N) true (by omega) hm b1 b2
  have he:ix u.E i=some u.E[i.toNat]:=by unfold ix;rw [if_pos h0,List.getElem?_eq_getElem hi]
  unfold iO uV
  rw [if_pos (by simpa using h1'),he,aA,hb',aA,g2,aA,kO h0 h1' (by omega)]
  split
  ·exact ⟨m',rfl,g3⟩
  ·exact ⟨m,rfl,hm⟩) (fun m hm=>⟨by
  show iO u m (u.E.length:Int)=_
  unfold iO
  rw [if_neg (by simp)],hm⟩) (List.replicate (u.N * u.N).toNat false) (by simp)
 rw [e1,aA]
 unfold uU
 obtain ⟨m2,e3,e4⟩:=close2_ok (s:=u.N) (by omega) m1 e2
 rw [e3,aA]
 exact ⟨m2,rfl,e4⟩
theorem step_len (h:Mod6 u) {still:List Bool} (hst:still.length=(u.N * u.N).toNat) {k:Int} (hk:lU u k) (l:Int):∃ m,aAK u still k l=some m/\m.length=u.N.toNat:=by
 have h1:=h.big.st
 have h2:=h.st
 have h3:=h.big.ed
 have hk':=hk
 unfold lU at hk'
 have hm:mkz u.N false=some (List.replicate u.N.toNat false):=by
  unfold mkz
  rw [if_pos ⟨by omega,by unfold kP;omega⟩]
 unfold aAK
 rw [hm,aA]
 split
 ·obtain ⟨m1,e1,e2⟩:=iU (step:=fun q:List Bool × Int=>jF u still k q.1 q.2) (n:=u.N) (by omega) (fun _ m=>m.length=u.N.toNat) (fun m=>m.length=u.N.toNat) (fun m i h0 h1' hm=>by
   show ∃ m',jF u still k m i=_/\_
   obtain ⟨b,hb⟩:=aDM (m:=still) (s:=u.N) (by omega) hst hk' ⟨h0,h1'⟩
   obtain ⟨x,hx⟩:=aIt (m:=m) hm ⟨h0,h1'⟩
   obtain ⟨m',g2,g3⟩:=ln_st (m:=m) b hm ⟨h0,h1'⟩
   unfold jF
   rw [if_pos (by simpa using h1'),hb,aA,hx,aA,g2,aA,kO h0 h1' (by omega)]
   exact ⟨m',rfl,g3⟩) (fun m hm=>⟨by
   show jF u still k m u.N=_
   unfold jF
   rw [if_neg (by simp)],hm⟩) (List.replicate u.N.toNat false) (by simp)
  rw [e1,aA]
  exact ⟨m1,rfl,e2⟩
 ·obtain ⟨m1,e1,e2⟩:=iU (step:=fun q:List Bool × Int=>jH u still k l q.1 q.2) (n:=(u.E.length:Int)) (by omega) (fun _ m=>m.length=u.N.toNat) (fun m=>m.length=u.N.toNat) (fun m i h0 h1' hm=>by
   show ∃ m',jH u still k l m i=_/\_
   have hi:i.toNat < u.E.length:=by omega
   obtain ⟨b1,b2,_⟩:=h.big.inn _ (List.getElem_mem hi)
   unfold lU at b1 b2
   have he:ix u.E i=some u.E[i.toNat]:=by unfold ix;rw [if_pos h0,List.getElem?_eq_getElem hi]
   obtain ⟨b,hb'⟩:=aDM (m:=still) (s:=u.N) (by omega) hst hk' b1
   have hj4:∀ m':List Bool,qP i m'=some (.inl (m',i+1)):=fun m'=>by unfold qP;rw [kO h0 h1' (by omega)]
   obtain ⟨m2,e3,e4⟩:=iU (step:=fun q:List Bool × Int=>jG u still u.E[i.toNat] q.1 q.2) (n:=u.N) (by omega) (fun _ m=>m.length=u.N.toNat) (fun m=>m.length=u.N.toNat) (fun m j h0 h1' hm=>by
    show ∃ m',jG u still u.E[i.toNat] m j=_/\_
    obtain ⟨b,hb⟩:=aDM (m:=still) (s:=u.N) (by omega) hst b2 ⟨h0,h1'⟩
    obtain ⟨x,hx⟩:=aIt (m:=m) hm ⟨h0,h1'⟩
    obtain ⟨m',g2,g3⟩:=ln_st (m:=m) true hm ⟨h0,h1'⟩
    unfold jG xO
    rw [if_pos (by simpa using h1'),hb,aA,kO h0 h1' (by omega)]
    cases b with
    |true=>rw [if_pos rfl,hx,aA,g2,aA];exact ⟨m',rfl,g3⟩
    |false=>rw [if_neg (by simp)];exact ⟨m,rfl,hm⟩) (fun m hm=>⟨by
    show jG u still u.E[i.toNat] m u.N=_
    unfold jG
    rw [if_neg (by simp)],hm⟩) m hm
   unfold jH
   rw [if_pos (by simpa using h1'),he,aA,hb',aA]
   have hj8:∀ v,∃ m',qQ u still m i u.E[i.toNat] v=some (.inl (m',i+1))/\m'.length=u.N.toNat:=fun v=>by
    unfold qQ
    cases v with
    |true=>rw [if_pos rfl,hj4];exact ⟨m,rfl,hm⟩
    |false=>
     rw [if_neg (by simp),e3,aA]
     unfold xN
     rw [hj4]
     exact ⟨m2,rfl,e4⟩
   split
   ·exact hj8 _
   ·exact hj8 _) (fun m hm=>⟨by
   show jH u still k l m (u.E.length:Int)=_
   unfold jH
   rw [if_neg (by simp)],hm⟩) (List.replicate u.N.toNat false) (by simp)
  rw [e1,aA]
  exact ⟨m1,rfl,e2⟩
theorem sat_len (h:Mod6 u):∃ v,yZ u=some v/\Big v/\v.N=u.N:=by
 have h1:=h.big.st
 have h2:=h.st
 have hl:=h.lab
 obtain ⟨still,s1,s2⟩:=still_len h
 unfold yZ
 rw [dK (by simp [kP];omega),aA,List.nil_append]
 unfold vI
 rw [s1,aA]
 obtain ⟨E,e1,e2,e3⟩:=iU (step:=fun q:List Edge × Int=>mA u still q.1 q.2) (n:=u.N) (by omega) (fun k E=>(∀ e∈E,tG u.N u.L.length e)/\E.length<=640 * k) (fun E=>(∀ e∈E,tG u.N u.L.length e)/\E.length<=51200) (fun E k k0 k1 hE=>by
  show ∃ m',mA u still E k=_/\_
  obtain ⟨F,f1,f2,f3⟩:=iU (step:=fun q:List Edge × Int=>lZ u still k q.1 q.2) (n:=(u.L.length:Int)) (by omega) (fun j F=>(∀ e∈F,tG u.N u.L.length e)/\F.length<=E.length+80 * j) (fun F=>(∀ e∈F,tG u.N u.L.length e)/\F.length<=E.length+640) (fun F l l0 l1 hF=>by
   show ∃ m',lZ u still k F l=_/\_
   obtain ⟨m,g1,g2⟩:=step_len h s2 (k:=k) ⟨k0,k1⟩ l
   obtain ⟨D,d1,d2,d3⟩:=iU (step:=fun q:List Edge × Int=>lY u k l m q.1 q.2) (n:=u.N) (by omega) (fun i D=>(∀ e∈D,tG u.N u.L.length e)/\D.length<=F.length+i) (fun D=>(∀ e∈D,tG u.N u.L.length e)/\D.length<=F.length+80) (fun D i i0 i1 hD=>by
    show ∃ m',lY u k l m D i=_/\_
    obtain ⟨b,hb⟩:=aIt (m:=m) g2 ⟨i0,i1⟩
    have hlen:=hD.2
    have hF2:=hF.2
    have hE2:=hE.2
    have hlim:D.length+1<=1000000:=by omega
    unfold lY sQ
    rw [if_pos (by simpa using i1),hb,aA,kO i0 i1 (by omega)]
    cases b with
    |true=>
     rw [if_pos rfl,dK (by simp only [List.length_singleton,kP];omega),aA]
     refine ⟨_,rfl,fun e he=>?_,by rw [List.length_append,List.length_singleton];omega⟩
     rcases List.mem_append.1 he with he|he
     ·exact hD.1 e he
     ·rw [List.mem_singleton] at he
      subst he
      exact ⟨⟨k0,k1⟩,⟨i0,i1⟩,l0,l1⟩
    |false=>rw [if_neg (by simp)];exact ⟨D,rfl,hD.1,by omega⟩) (fun D hD=>⟨by
    show lY u k l m D u.N=_
    unfold lY
    rw [if_neg (by simp)],hD.1,by have:=hD.2;omega⟩) F ⟨hF.1,by omega⟩
   unfold lZ
   rw [if_pos (by simpa using l1),g1,aA,d1,aA]
   unfold sP xR
   rw [kO l0 l1 (by omega)]
   exact ⟨D,rfl,d2,by have:=hF.2;omega⟩) (fun F hF=>⟨by
   show lZ u still k F (u.L.length:Int)=_
   unfold lZ
   rw [if_neg (by simp)],hF.1,by have:=hF.2;omega⟩) E ⟨hE.1,by omega⟩
  unfold mA
  rw [if_pos (by simpa using k1),f1,aA]
  unfold sO xQ
  rw [kO k0 k1 (by omega)]
  exact ⟨F,rfl,f2,by have:=hE.2;omega⟩) (fun E hE=>⟨by
  show mA u still E u.N=_
  unfold mA
  rw [if_neg (by simp)],hE.1,by have:=hE.2;omega⟩) [] ⟨by simp,by simp⟩
 rw [e1,aA]
 exact ⟨_,rfl,⟨by show 1<=u.N/\u.N<=100;omega,by show u.L.length<=100;omega,by show E.length<=90000;omega,fun e he=>by have:=e2 e he;unfold tG at this;exact ⟨this.1,this.2.1,this.2.2⟩⟩,rfl⟩
end
section
variable {a b:cB} {c:aY}
theorem uni_mod (ha:cN a) (hb:cN b) (na:∀ s∈a.L,s∈Nz) (nb:∀ s∈b.L,s∈Nz) {M:List aY} {Eo:List Edge} (h:Uni a b M Eo):Mod6 (uniL a b M Eo):=by
 have h1:=ha.1
 have h2:=hb.1
 refine ⟨uni_big ha hb h,by show a.N+b.N<=80;omega,?_⟩
 show 1<=(dV::M).length/\(dV::M).length<=8
 have hnd:M.Nodup:=h.str.1.imp fun {a b} h e=>by subst e;rw [tX] at h;cases h
 have:=List.Nodup.length_le_of_subset (l₁:=M) (l₂:=Nz) hnd (fun x hx=>by
  rcases List.mem_append.1 ((h.mem x).1 hx).1 with hx|hx
  ·exact na x hx
  ·exact nb x hx)
 have h7:Nz.length=7:=rfl
 rw [List.length_cons]
 omega
def Rw (r:List (List Int)):Prop:=r.length<=2000/\∀ x∈r,x.length<=3
theorem aON (ha:cN a) (hb:cN b) (na:∀ s∈a.L,s∈Nz) (nb:∀ s∈b.L,s∈Nz):∃ r,aCc a b=some r/\r.length<=1600/\∀ x∈r,x.length<=3:=by
 have h1:=ha.1
 have h2:=hb.1
 obtain ⟨M,Eo,hU⟩:=uni_ex ha hb
 have hm:=uni_mod ha hb na nb hU
 obtain ⟨v,v1,v2,v3⟩:=sat_len hm
 obtain ⟨p,p1,p2⟩:=aMy v2
 have hp:p.length=(a.N+b.N).toNat:=by rw [p2.1,v3];rfl
 unfold aCc aHY
 rw [aMv ha hb hU,aA,v1,aA,p1,aA,aA]
 obtain ⟨r,e1,e2,e3⟩:=iU (step:=fun s:List (List Int) × Int=>rM a b p s.1 s.2) (n:=a.N) (by omega) (fun k R=>R.length<=40 * k/\∀ x∈R,x.length<=3) (fun R=>R.length<=1600/\∀ x∈R,x.length<=3) (fun R k k0 k1 hR=>by
  show ∃ m',rM a b p R k=_/\_
  obtain ⟨Q,f1,f2,f3⟩:=iU (step:=fun s:List (List Int) × Int=>rL a b p k s.1 s.2) (n:=b.N) (by omega) (fun j Q=>Q.length<=R.length+j/\∀ x∈Q,x.length<=3) (fun Q=>Q.length<=R.length+40/\∀ x∈Q,x.length<=3) (fun Q j j0 j1 hQ=>by
   show ∃ m',rL a b p k Q j=_/\_
   obtain ⟨z1,hz1⟩:=aIt (s:=a.N+b.N) hp (k:=k) ⟨k0,by omega⟩
   obtain ⟨z2,hz2⟩:=aIt (s:=a.N+b.N) hp (k:=a.N+j) ⟨by omega,by omega⟩
   have hQ1:=hQ.1
   have hR1:=hR.1
   have hlim:Q.length+1<=1000000:=by omega
   unfold rL zE
   rw [if_pos (by simpa using j1),hz1,aA,dP (x:=a.N+j) (by omega) (by omega),hz2,aA,kO j0 j1 (by omega)]
   split
   ·rw [dK (by simp only [List.length_singleton,kP];omega),aA]
    refine ⟨_,rfl,by rw [List.length_append,List.length_singleton];omega,fun x hx=>?_⟩
    rcases List.mem_append.1 hx with hx|hx
    ·exact hQ.2 x hx
    ·rw [List.mem_singleton] at hx;subst hx;simp
   ·exact ⟨Q,rfl,by omega,hQ.2⟩) (fun Q hQ=>⟨by
   show rL a b p k Q b.N=_
   unfold rL
   rw [if_neg (by simp)],by have:=hQ.1;omega,hQ.2⟩) R ⟨by omega,hR.2⟩
  unfold rM
  rw [if_pos (by simpa using k1),f1,aA]
  unfold zD aCz
  rw [kO k0 k1 (by omega)]
  exact ⟨Q,rfl,by have:=hR.1;omega,f3⟩) (fun R hR=>⟨by
  show rM a b p R a.N=_
  unfold rM
  rw [if_neg (by simp)],by have:=hR.1;omega,hR.2⟩) [] ⟨by simp,by simp⟩
 rw [e1,aA]
 exact ⟨r,rfl,e2,e3⟩
theorem drawRow6 {s1:Int} (s2:Int) (hs:0<=s1/\s1<=1000000) {row:List Int} (hr:row.length=2):∃ r s1' s2',qF c s1 s2 row=some (r,s1',s2')/\r.length<=3:=by
 obtain ⟨w,p,q,e1,g1,g2⟩:=aBL c s2 (s1:=s1) (n:=2) (by omega) (by omega)
 unfold qF
 rw [e1,aA]
 cases w with
 |true=>
  have:slc row 0 1=some (row.take 1):=by
   unfold slc
   rw [if_pos (by omega)]
   simp
  rw [if_pos rfl,this,aA]
  exact ⟨_,_,_,rfl,by rw [List.length_take];omega⟩
 |false=>
  have:aGb row=some row:=by
   unfold aGb
   rw [dK (by simp [kP];omega),aA,List.nil_append]
  rw [if_neg (by simp),this,aA,dK (by simp [kP];omega),aA]
  exact ⟨_,_,_,rfl,by rw [List.length_append,List.length_singleton];omega⟩
theorem aOO (ha:cN a) (hb:cN b) {r:List (List Int)} (hl:r.length<=1600) (h2:∀ x∈r,x.length=2) {s1:Int} (s2:Int) (hs:0<=s1/\s1<=900000) (v:Bool) (hv:v=false->1<=r.length):∃ r' s1' s2',kC c a b r s1 s2 v=some (r',s1',s2')/\Rw r':=by
 have h1a:=ha.1
 have h1b:=hb.1
 have h3:∀ x∈r,x.length<=3:=fun x hx=>by rw [h2 x hx];omega
 unfold kC
 cases v with
 |true=>rw [if_pos rfl];exact ⟨r,_,_,rfl,by omega,h3⟩
 |false=>
  have hpos:=hv rfl
  obtain ⟨i,x1,y1,e1,hi,a1,b1⟩:=fH c s2 (s1:=s1) (n:=(r.length:Int)) (by omega) (by omega)
  obtain ⟨k,x2,y2,e2,hk,a2,b2⟩:=fH c y1 (s1:=x1) (n:=4) (by omega) (by omega)
  have hin:i.toNat < r.length:=by omega
  have hix:ix r i=some r[i.toNat]:=by unfold ix;rw [if_pos hi.1,List.getElem?_eq_getElem hin]
  have hst:∀ z:List Int,st r i z=some (r.set i.toNat z):=fun z=>by unfold Gv.st;rw [if_pos ⟨hi.1,by omega⟩]
  have hset:∀ z:List Int,z.length<=3->Rw (r.set i.toNat z):=fun z hz=>⟨by rw [List.length_set];omega,fun x hx=>by
   rcases List.mem_or_eq_of_mem_set hx with hx|rfl
   ·exact h3 x hx
   ·exact hz⟩
  rw [if_neg (by simp),e1,aA,show bR c (i,x1,y1).2.1 (i,x1,y1).2.2 4=_ from e2,aA]
  by_cases k0:k=0
  ·have s0:slc r 0 i=some (r.take i.toNat):=by
    unfold slc
    rw [if_pos (by omega)]
    simp
   have s3:slc r (wr (i+1)) (r.length:Int)=some (r.drop (i+1).toNat):=by
    rw [dP (by omega) (by omega)]
    unfold slc
    rw [if_pos (by omega)]
    simp [List.take_of_length_le]
   rw [if_pos (by simpa using k0),show slc r 0 (i,x1,y1).1=_ from s0,aA,show slc r (wr ((i,x1,y1).1+1)) (r.length:Int)=_ from s3,aA,dK (by simp [kP];omega),aA]
   refine ⟨_,_,_,rfl,by simp;omega,fun x hx=>?_⟩
   rcases List.mem_append.1 hx with hx|hx
   ·exact h3 x (List.mem_of_mem_take hx)
   ·exact h3 x (List.mem_of_mem_drop hx)
  ·rw [if_neg (by simpa using k0)]
   by_cases k1:k=1
   ·obtain ⟨z,x3,y3,e3,hz,a3,b3⟩:=fH c y2 (s1:=x2) (n:=a.N) (by omega) (by omega)
    obtain ⟨z',x4,y4,e4,hz',a4,b4⟩:=fH c y3 (s1:=x3) (n:=b.N) (by omega) (by omega)
    rw [if_pos (by simpa using k1),show bR c (k,x2,y2).2.1 (k,x2,y2).2.2 a.N=_ from e3,aA,show bR c (z,x3,y3).2.1 (z,x3,y3).2.2 b.N=_ from e4,aA,show ix r (i,x1,y1).1=_ from hix,aA,show st r (i,x1,y1).1 _=_ from hst _,aA]
    exact ⟨_,_,_,rfl,hset _ (by simp)⟩
   ·rw [if_neg (by simpa using k1)]
    by_cases k2:k=2
    ·obtain ⟨z,x3,y3,e3,hz,a3,b3⟩:=fH c y2 (s1:=x2) (n:=8) (by omega) (by omega)
     obtain ⟨z',x4,y4,e4,hz',a4,b4⟩:=fH c y3 (s1:=x3) (n:=8) (by omega) (by omega)
     rw [if_pos (by simpa using k2),show bR c (k,x2,y2).2.1 (k,x2,y2).2.2 8=_ from e3,aA,show bR c (z,x3,y3).2.1 (z,x3,y3).2.2 8=_ from e4,aA,dK (by simp [kP];omega),aA]
     refine ⟨_,_,_,rfl,by simp;omega,fun x hx=>?_⟩
     rcases List.mem_append.1 hx with hx|hx
     ·exact h3 x hx
     ·rw [List.mem_singleton] at hx;subst hx;simp
    ·have k3:k=3:=by omega
     obtain ⟨z,x3,y3,e3,hz⟩:=drawRow6 (c:=c) (s1:=x2) y2 (by omega) (h2 _ (List.getElem_mem hin))
     rw [if_neg (by simpa using k2),if_pos (by simpa using k3),show ix r (i,x1,y1).1=_ from hix,aA,show qF c (k,x2,y2).2.1 (k,x2,y2).2.2 r[i.toNat]=_ from e3,aA,show st r (i,x1,y1).1 _=_ from hst _,aA]
     exact ⟨_,_,_,rfl,hset _ hz⟩
theorem aOP (ha:cN a) (hb:cN b) {p:List Int} (hp:p.length=(a.N+b.N).toNat) {s1:Int} (s2:Int) (hs:0<=s1/\s1<=800000):∃ r' s1' s2',kD c a b s1 s2 p=some (r',s1',s2')/\Rw r':=by
 obtain ⟨r,e,hl,h2⟩:=betw_ok ha hb hp
 unfold kD
 rw [e,aA]
 by_cases h0:r.length=0
 ·rw [if_pos (by simpa using h0)]
  exact aOO ha hb hl h2 s2 (by omega) true (fun h=>by cases h)
 ·obtain ⟨k,x1,y1,e1,hk,a1,b1⟩:=fH c s2 (s1:=s1) (n:=3) (by omega) (by omega)
  rw [if_neg (by simpa using h0),e1,aA]
  exact aOO ha hb hl h2 y1 (by show 0<=x1/\x1<=900000;omega) _ (fun _=>by omega)
theorem fit9 {t:cB} (h:lE 500 t):lE 999999999 t:=⟨Nat.le_trans h.1 (by decide),fun s hs=>Nat.le_trans (h.2.1 s hs) (by decide),Nat.le_trans h.2.2 (by decide)⟩
theorem aPM (ha:cN a) (hb:cN b) (fa:lE 500 a) (fb:lE 500 b) {s1:Int} (s2:Int) (hs:0<=s1/\s1<=700000):∃ r' s1' s2',mX c s1 s2 a b=some (r',s1',s2')/\Rw r':=by
 obtain ⟨M,Eo,hU⟩:=uni_ex ha hb
 have hbig:=uni_big ha hb hU
 obtain ⟨p,p1,p2⟩:=aMy hbig
 obtain ⟨w,x1,y1,e1,a1,b1⟩:=aBL c s2 (s1:=s1) (n:=4) (by omega) (by omega)
 unfold mX
 rw [aGw a (fit9 fa),aAx ha,aA,if_neg (by simp),aGw b (fit9 fb),aAx hb,aA]
 unfold mQ
 rw [if_neg (by simp),aMv ha hb hU,aA,p1,aA,e1,aA]
 cases w with
 |true=>
  obtain ⟨k,x2,y2,e2,hk,a2,b2⟩:=fH c y1 (s1:=x1) (n:=3) (by omega) (by omega)
  obtain ⟨q,q1,q2⟩:=aPD hbig (n:=k) (by omega)
  rw [if_pos rfl,e2,aA,q1,aA]
  exact aOP ha hb q2.1 y2 (by show 0<=x2/\x2<=800000;omega)
 |false=>
  rw [if_neg (by simp)]
  exact aOP ha hb p2.1 y1 (by show 0<=x1/\x1<=800000;omega)
end
end Gv
set_option linter.unusedSimpArgs false
set_option linter.unusedVariables false
namespace Gv
open Go
section
variable {a b:cB} {c:aY}
theorem row_j4 (ha:cN a) (hb:cN b) (ba:Bnt a) (bb:Bnt b) {s1:Int} (s2:Int) (hs:0<=s1/\s1<=20000):∃ r s1' s2',iI c s1 s2 a b false=some (r,s1',s2')/\Rw r:=by
 have na:=aLz ha ba.2
 have nb:=aLz hb bb.2
 obtain ⟨w,x1,y1,e1,a1,b1⟩:=aBL c s2 (s1:=s1) (n:=5) (by omega) (by omega)
 unfold iI
 rw [if_neg (by simp),e1,aA]
 cases w with
 |true=>
  obtain ⟨r,p,q,e2,h2⟩:=aPM (c:=c) ha hb ba.1 bb.1 y1 (s1:=x1) (by omega)
  rw [if_pos rfl,show mX c (true,x1,y1).2.1 (true,x1,y1).2.2 a b=_ from e2,aA]
  exact ⟨r,p,q,rfl,h2⟩
 |false=>
  obtain ⟨l,e2,hl,h3⟩:=aON ha hb na nb
  rw [if_neg (by simp),e2,aA]
  obtain ⟨⟨o,p,q⟩,e3,h4⟩:=eA (step:=fun s:Int × Int × List (List Int) × Int=>gL c l s.1 s.2.1 s.2.2.1 s.2.2.2) l.length (fun k (q:Int × Int × List (List Int))=>(q.1,q.2.1,q.2.2,(k:Int))) (fun k q=>(s1<=q.1/\q.1<=s1+2+2 * k)/\q.2.2.length<=k/\∀ x∈q.2.2,x.length<=3) (fun r=>Rw r.1) (fun k q hk hI=>by
   obtain ⟨z1,z2,o⟩:=q
   obtain ⟨⟨i1,i2⟩,i3,i4⟩:=hI
   simp only at i1 i2 i3 i4
   obtain ⟨d,x2,y2,f1,f2,f3⟩:=aBL c z2 (s1:=z1) (n:=12) (by omega) (by omega)
   show ∃ q:Int × Int × List (List Int),gL c l z1 z2 o (k:Int)=some (.inl (q.1,q.2.1,q.2.2,((k+1:Nat):Int)))/\_
   unfold gL pE
   rw [if_pos (dJ hk),f1,aA,cU hk,aA,cS hk (by omega)]
   cases d with
   |false=>
    rw [if_pos (by simp),dK (by simp only [List.length_singleton,kP];omega),aA]
    refine ⟨(x2,y2,o++[l[k]]),rfl,⟨by show s1<=x2;omega,by show x2<=s1+2+2 * ((k+1:Nat):Int);omega⟩,by show (o++[l[k]]).length<=k+1;rw [List.length_append,List.length_singleton];omega,fun x hx=>?_⟩
    rcases List.mem_append.1 hx with hx|hx
    ·exact i4 x hx
    ·rw [List.mem_singleton] at hx;subst hx;exact h3 _ (List.getElem_mem hk)
   |true=>
    rw [if_neg (by simp)]
    exact ⟨(x2,y2,o),rfl,⟨by show s1<=x2;omega,by show x2<=s1+2+2 * ((k+1:Nat):Int);omega⟩,by show o.length<=k+1;omega,i4⟩) (fun q hI=>by
   obtain ⟨z1,z2,o⟩:=q
   obtain ⟨⟨i1,i2⟩,i3,i4⟩:=hI
   simp only at i1 i2 i3 i4
   refine ⟨(o,z1,z2),?_,by show o.length<=2000;omega,i4⟩
   show gL c l z1 z2 o (l.length:Int)=_
   unfold gL
   rw [if_neg (by simp)]) l.length 0 (x1,y1,[]) (by omega) ⟨⟨by show s1<=x1;omega,by show x1<=s1+2+2 * ((0:Nat):Int);omega⟩,by simp,by simp⟩
  have e4:loop (fun s:Int × Int × List (List Int) × Int=>gL c l s.1 s.2.1 s.2.2.1 s.2.2.2) (x1,y1,([]:List (List Int)),0)=some (o,p,q):=e3
  show ∃ r s1' s2',(ob (loop (fun s:Int × Int × List (List Int) × Int=>gL c l s.1 s.2.1 s.2.2.1 s.2.2.2) (x1,y1,([]:List (List Int)),0)) fun r=>pD r.1 r.2.1 r.2.2)=_/\_
  rw [e4,aA]
  exact ⟨o,p,q,rfl,h4⟩
theorem row6 (ba:Bnt a) (bb:Bnt b) {s1:Int} (s2:Int) (hs:0<=s1/\s1<=20000):∃ r s1' s2',qG c s1 s2 a b=some (r,s1',s2')/\Rw r:=by
 have hno:∃ r s1' s2',iI c s1 s2 a b true=some (r,s1',s2')/\Rw r:=by
  unfold iI
  rw [if_pos rfl]
  exact ⟨_,_,_,rfl,by simp,by simp⟩
 unfold qG
 rw [aGw a (fit9 ba.1),aA]
 by_cases ha:cN a
 ·rw [aAx ha,if_neg (by simp),aGw b (fit9 bb.1),aA]
  by_cases hb:cN b
  ·rw [aAx hb]
   exact row_j4 ha hb ba bb s2 hs
  ·rw [tH hb];exact hno
 ·rw [tH ha,if_pos (by simp)]
  exact hno
theorem draw6:∃ a b r,wR c=some (a,b,r)/\Bnt a/\Bnt b/\Rw r:=by
 obtain ⟨a,b,x,y,e,ha,hb,h1,h2⟩:=two6 (c:=c)
 obtain ⟨r,p,q,e2,h3⟩:=row6 (c:=c) ha hb (s1:=x) y (by omega)
 unfold wR aFU
 rw [aA,show xT c ((0:Int),(0:Int)).1 ((0:Int),(0:Int)).2=_ from e,aA,show qG c (a,b,x,y).2.2.1 (a,b,x,y).2.2.2 (a,b,x,y).1 (a,b,x,y).2.1=_ from e2,aA]
 exact ⟨a,b,r,rfl,ha,hb,h3⟩
end
theorem lawWeak (cs ms:aY):rC cs ms=some true:=by
 have key:fI cs ms false=some true:=by
  obtain ⟨a,b,r,e,ha,hb,hr⟩:=draw6 (c:=cs)
  obtain ⟨z,e1,h1⟩:=aNu (fit9 ha.1) (fit9 hb.1) r (by have:=hr.1;omega) (fun x hx=>by have:=hr.2 x hx;omega)
  unfold fI
  rw [if_neg (by simp),e,aA]
  show (ob (tP a b r) fun r44=>_)=_
  rw [e1,aA]
  rcases h1 with ⟨rfl,⟨va,vb⟩,l,hl⟩|⟨rfl,h1⟩
  ·rw [if_neg (by simp)]
   have hne:a.L≠[]:=fun h=>by
    have:=va.2.2.1.1
    rw [h] at this;simp at this
   obtain ⟨f,f1,f2,f3,f4,f5⟩:=aOM (c:=ms) (t:=a) (aLz va ha.2) hne
   have fa:lE 1000 a:=⟨Nat.le_trans ha.1.1 (by decide),fun s hs=>Nat.le_trans (ha.1.2.1 s hs) (by decide),Nat.le_trans ha.1.2.2 (by decide)⟩
   have fb:lE 1000 b:=⟨Nat.le_trans hb.1.1 (by decide),fun s hs=>Nat.le_trans (hb.1.2.1 s hs) (by decide),Nat.le_trans hb.1.2.2 (by decide)⟩
   have w1:=aMH va fa f2 f3 (by omega) (by omega)
   have w2:=aMH vb fb f2 f3 (by omega) (by omega)
   have hs:cl (f.sem (aDx a) a.I)=cl (f.sem (aDx b) b.I):=by
    rw [show (f.sem (aDx a) a.I)=(f.sem (aDx b) b.I) from propext (sem_acc va vb hl f)]
   show (ob (aCf ms a) fun r54=>_)=_
   rw [f1,aA]
   show (ob (oL f.list a a.I) fun r65=>ob (oL f.list b b.I) fun r75=>_)=_
   rw [w1,aA,w2,aA,hs]
   unfold kI
   simp
  ·rw [if_pos (by simp)]
   show (ob (aCe a b r) fun r49=>_)=_
   rw [h1,aA]
   rfl
 have kt:fI cs ms true=some true:=by
  unfold fI
  rw [if_pos rfl]
 obtain ⟨d,hd⟩:∃ d,aBT cs=some d:=⟨_,by unfold aBT;rfl⟩
 obtain ⟨d2,hd2⟩:∃ d,aBT ms=some d:=⟨_,by unfold aBT;rfl⟩
 unfold rC
 rw [hd,aA,hd2,aA]
 cases d with
 |true=>rw [if_pos rfl];exact kt
 |false=>
  rw [if_neg (by simp)]
  cases d2 with
  |true=>exact kt
  |false=>exact key
end Gv
