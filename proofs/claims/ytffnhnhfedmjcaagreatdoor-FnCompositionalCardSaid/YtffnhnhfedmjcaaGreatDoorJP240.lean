/- The labels of drawn networks and of systems made of their parts: which meet, which are seen. -/
import Derived.Test.YtffnhnhfedmjcaaGreatDoorJP210
set_option linter.all false
namespace Gv
open Go
def T6:List aH:=[bC,[97],[103,101,116,40,48,41],[103,101,116,40,49,41],[112,117,116,40,48,41],[112,117,116,40,49,41],[109,111,118,101,40,48,41],[109,111,118,101,40,49,41],[112,97,105,114]]
def vs6 (s:aH):List Int:=if s=[103,101,116,40,48,41]\/s=[112,117,116,40,48,41]\/s=[109,111,118,101,40,48,41] then [0] else if s=[103,101,116,40,49,41]\/s=[112,117,116,40,49,41]\/s=[109,111,118,101,40,49,41] then [1] else []
def uO (s:aH):aH:=(oO 40 s).1
theorem rd_nm {s nm:aH} {vs:List Int} (h:s.length < 1000000000) (e:mV s=some (nm,vs,true)):nm=(oO 40 s).1:=by
 have j2:∀ r1 v,lI s r1 v=some (nm,vs,true)->nm=r1.1:=fun r1 v e=>by
  have j1:∀ b,mM r1 v b=some (nm,vs,true)->nm=r1.1:=fun b e=>by
   unfold mM at e
   cases b with
   |true=>simp at e
   |false=>simp at e;exact e.1.symm
  unfold lI at e
  obtain ⟨x,_,e⟩:=aB e
  split at e<;>exact j1 _ e
 unfold mV aNf at e
 rw [if_pos (by omega),aA,aOk] at e
 simp only at e
 split at e
 ·obtain ⟨x,_,e⟩:=aB e
  obtain ⟨y,_,e⟩:=aB e
  obtain ⟨z,_,e⟩:=aB e
  split at e
  ·simp at e
  ·exact j2 _ _ e
 ·exact j2 _ _ e
theorem rd_nums {s nm:aH} {vs:List Int} (h:s.length < 1000000000) (e:mV s=some (nm,vs,true)):
  vs=match (oO 40 s).2 with|none=>[]|some r=>(spl 44 (if (r.getLast? == some 41)=true then r.dropLast else r)).map fun x=>(gJ x).1:=by
 have j2:∀ r1 v,lI s r1 v=some (nm,vs,true)->vs=v:=fun r1 v e=>by
  have j1:∀ b,mM r1 v b=some (nm,vs,true)->vs=v:=fun b e=>by
   unfold mM at e
   cases b with
   |true=>simp at e
   |false=>simp at e;exact e.2.symm
  unfold lI at e
  obtain ⟨x,_,e⟩:=aB e
  split at e<;>exact j1 _ e
 unfold mV aNf at e
 rw [if_pos (by omega),aA,aOk] at e
 have hcl:=aNm 40 s
 cases hc:(oO 40 s).2 with
 |none=>
  rw [hc] at e
  simp only [Option.isSome_none] at e
  rw [if_neg (by simp)] at e
  exact j2 _ _ e
 |some r=>
  have hlen:=hcl.2 r hc
  rw [hc] at e
  simp only [Option.isSome_some,Option.getD_some,if_pos] at e ⊢
  rw [aIh r (by omega),aA] at e
  generalize hT:(if (r.getLast? == some 41)=true then r.dropLast else r)=t at e ⊢
  have htl:t.length<=r.length:=by rw [←hT];split<;>simp
  have hsp:aFY t [44]=some (spl 44 t):=by
   unfold aFY;rw [if_pos ⟨by omega,by simp⟩,aJN 44 _ _ (Nat.le_refl _)]
  have hsl:=spl_len 44 t
  rw [hsp,aA,aHn _ (by omega) (fun x hx=>by have:=hsl.2 x hx;omega),aA] at e
  by_cases hd:(spl 44 t).all (fun s=>(gJ s).2)=true
  ·rw [if_pos hd,if_neg (by simp)] at e
   exact j2 _ _ e
  ·rw [if_neg hd] at e;simp at e
theorem rdc {c:UInt8} (h:dig c=true) (h2:aFa [c]=true):(gJ [c]).1=(c.toNat:Int) - 48:=by
 have hi:=aIC [c]
 rw [h2] at hi
 unfold in63 at hi
 rw [Bool.and_eq_true] at hi
 have h3:=aIB hi.1
 have h4:=hi.2
 simp only [aHm,Bool.and_eq_true,decide_eq_true_eq] at h4
 have h5:=c.toNat_lt
 unfold dig at h
 simp only [Bool.and_eq_true,decide_eq_true_eq] at h
 exact aMa (by omega) (by omega) (h3.trans (aJj (by unfold dig;simp [h])).symm)
theorem rd6 {s:aH} (h:s∈T6):mV s=some (uO s,vs6 s,true):=by
 have hl:s.length < 1000000000/\aHl s=true:=by
  have:∀ s∈T6,s.length < 1000000000/\aHl s=true:=by decide
  exact this s h
 have e:=aIE s hl.1
 unfold aDV at e
 obtain ⟨x,hx,e⟩:=aB e
 obtain ⟨nm,vs,b⟩:=x
 rw [hl.2] at e
 simp at e
 subst e
 have h1:=rd_nm hl.1 hx
 have h2:=rd_nums hl.1 hx
 have h3:∀ s∈T6,(match (oO 40 s).2 with|none=>[]|some r=>(spl 44 (if (r.getLast? == some 41)=true then r.dropLast else r)).map fun x=>(gJ x).1)=vs6 s:=by
  have r0:(gJ [48]).1=0:=rdc (by decide) (by decide)
  have r1:(gJ [49]).1=1:=rdc (by decide) (by decide)
  intro s hs
  unfold T6 at hs
  simp only [List.mem_cons,List.not_mem_nil,or_false] at hs
  rcases hs with rfl|rfl|rfl|rfl|rfl|rfl|rfl|rfl|rfl
  ·rfl
  ·rfl
  ·show ([[48]]:List aH).map (fun x=>(gJ x).1)=[0];rw [List.map_cons,r0];rfl
  ·show ([[49]]:List aH).map (fun x=>(gJ x).1)=[1];rw [List.map_cons,r1];rfl
  ·show ([[48]]:List aH).map (fun x=>(gJ x).1)=[0];rw [List.map_cons,r0];rfl
  ·show ([[49]]:List aH).map (fun x=>(gJ x).1)=[1];rw [List.map_cons,r1];rfl
  ·show ([[48]]:List aH).map (fun x=>(gJ x).1)=[0];rw [List.map_cons,r0];rfl
  ·show ([[49]]:List aH).map (fun x=>(gJ x).1)=[1];rw [List.map_cons,r1];rfl
  ·rfl
 rw [hx,h1,h2,h3 s h];rfl
def mtP (a b:aH) (m:bK):Bool:=m.Left == mnS a b&&m.Right == mxS a b
theorem meet_idx (ms:List bK) (a b:aH) (h:ms.length < 1000000):cU ms a b=some (match ms.findIdx? (mtP a b) with|none=>-1|some i=>(i:Int)):=by
 unfold cU
 have hl:=wT (step:=fun s=>cL ms a b s) ms (mtP a b) (fun k x hk hx=>by
  have hw:=bQ hk (show ms.length < 4611686018427387904 by omega)
  simp only [cL,bU hk,if_pos,hx,aA,hw]
  unfold tN pP mtP
  by_cases h1:(x.Left == mnS a b)=true
  ·rw [if_pos h1,h1,Bool.true_and,aA]
  ·have h1':(x.Left == mnS a b)=false:=by simpa using h1
   rw [if_neg h1,h1',Bool.false_and,aA]) (by simp only [cL,dB];rfl)
 rw [hl,aA]
 cases ms.findIdx? (mtP a b)<;>rfl
structure aOQ (ms:List bK):Prop where
 len:ms.length<=6
 tau:∀ m∈ms,m.Left≠bC/\m.Right≠bC
 res:∀ m∈ms,m.Result.length<=100
def labF (nm:aH) (vs:List Int):Option aH:=if nm=bC then (if vs.length=0 then some bC else none) else if aAe nm=true/\vs.length<=2/\vs.all aHm=true then some (if vs.length=0 then nm else nm++[40]++Lib.join (vs.map Lib.itoa) [44]++[41]) else none
def mtN (ms:List bK) (a b:aH):Option aH:=if a∈T6/\b∈T6 then (match ms.find? (mtP (uO a) (uO b)) with
 |none=>none
 |some m=>if vs6 a=vs6 b then labF m.Result (vs6 a) else none) else none
theorem vs6_ok (s:aH):vs6 s=[]\/vs6 s=[0]\/vs6 s=[1]:=by
 unfold vs6
 split
 ·exact .inr (.inl rfl)
 ·split
  ·exact .inr (.inr rfl)
  ·exact .inl rfl
theorem lab_at {nm:aH} (hn:nm.length<=100) (s:aH):∃ r,aCn nm (vs6 s)=some r/\(labF nm (vs6 s)=if r.2=true then some r.1 else none)/\r.1.length<=110:=by
 have hj:(Lib.join ((vs6 s).map Lib.itoa) [44]).length<=5:=by
  have i1:Lib.itoa 1=[49]:=aJj (c:=49) (by decide)
  rcases vs6_ok s with h|h|h<;>rw [h]
  ·simp [Lib.join_nil]
  ·simp only [List.map_cons,List.map_nil,Lib.join_one,aNr];decide
  ·simp only [List.map_cons,List.map_nil,Lib.join_one,i1];decide
 have hl:(vs6 s).length<=1:=by rcases vs6_ok s with h|h|h<;>rw [h]<;>decide
 refine ⟨_,aID nm (vs6 s) (by omega) (by omega) (by omega),?_,?_⟩
 ·unfold labF
  by_cases h1:nm=bC
  ·rw [if_pos h1,if_pos h1]
   by_cases h2:(vs6 s).length=0
   ·rw [if_pos h2,if_pos (by simpa using h2)]
   ·rw [if_neg h2,if_neg (by simpa using h2)]
  ·rw [if_neg h1,if_neg h1]
   by_cases h2:aAe nm=true/\(vs6 s).length<=2/\(vs6 s).all aHm=true
   ·rw [if_pos h2,if_pos h2,if_pos rfl]
   ·rw [if_neg h2,if_neg h2,if_neg (by simp)]
 ·split
  ·show bC.length<=110;decide
  ·split
   ·show (if (vs6 s).length=0 then nm else nm++[40]++Lib.join ((vs6 s).map Lib.itoa) [44]++[41]).length<=110
    split
    ·omega
    ·simp only [List.length_append,List.length_singleton];omega
   ·simp
theorem aMv {β:Type} {p:β->Bool}:∀ (l:List β),(l.findIdx? p=none/\l.find? p=none)\/∃ i,∃ h:i < l.length,l.findIdx? p=some i/\l.find? p=some l[i]
 |[]=>.inl ⟨rfl,rfl⟩
 |x::l=>by
  rw [List.findIdx?_cons,List.find?_cons]
  cases hx:p x with
  |true=>exact .inr ⟨0,by simp,rfl,rfl⟩
  |false=>
   rcases aMv (p:=p) l with ⟨h1,h2⟩|⟨i,h,h1,h2⟩
   ·rw [h1,h2];exact .inl ⟨rfl,rfl⟩
   ·rw [h1,h2];exact .inr ⟨i+1,by simp;omega,rfl,rfl⟩
theorem meet_at {n:aO} (hm:aOQ n.Meetings) {a b:aH} (ha:a∈T6) (hb:b∈T6):∃ r,lX n a b=some r/\(mtN n.Meetings a b=if r.2=true then some r.1 else none)/\r.1.length<=110:=by
 have hl:=hm.len
 have hv:(vs6 a).length<=1:=by rcases vs6_ok a with h|h|h<;>rw [h]<;>decide
 unfold lX
 rw [rd6 ha,aA,rd6 hb,aA]
 unfold zO
 rw [meet_idx _ _ _ (by show n.Meetings.length < 1000000;omega),aA]
 unfold mtN
 rw [if_pos (show a∈T6/\b∈T6 from ⟨ha,hb⟩)]
 rcases aMv (p:=mtP (uO a) (uO b)) n.Meetings with ⟨h1,h2⟩|⟨i,hi,h1,h2⟩
 ·rw [h1,h2]
  simp only
  rw [if_pos (by decide),aA,if_pos (by decide)]
  refine ⟨([],false),rfl,?_,?_⟩<;>simp
 ·rw [h1,h2]
  simp only
  rw [if_neg (by simp),cG hi,aA,aA,if_neg (by simp),aHM _ _ (by omega),aA]
  unfold oX
  by_cases he:vs6 a=vs6 b
  ·obtain ⟨r,e1,e2,e3⟩:=lab_at (hm.res _ (List.getElem_mem hi)) a
   rw [if_neg (by simp [he]),if_pos he]
   simp only
   rw [e1,aA]
   exact ⟨r,rfl,e2,e3⟩
  ·rw [if_pos (by simp [he]),if_neg he]
   refine ⟨([],false),rfl,?_,?_⟩<;>simp
theorem mn_mx (a b:aH):(mnS a b=a/\mxS a b=b)\/(mnS a b=b/\mxS a b=a):=by
 unfold mnS mxS
 rcases aHI a b with h|h|h
 ·left;rw [h];exact ⟨rfl,rfl⟩
 ·subst h;left;exact ⟨by simp,by simp⟩
 ·right
  have h1:wV a b=false:=by
   cases g:wV a b with
   |false=>rfl
   |true=>have:=uM g h;rw [lB] at this;cases this
  have h2:(a == b)=false:=by
   rw [beq_eq_false_iff_ne];rintro rfl;rw [lB] at h;cases h
  rw [h1,h2];exact ⟨rfl,rfl⟩
theorem aOR {ms:List bK} (hm:aOQ ms) (b:aH):mtN ms bC b=none/\mtN ms b bC=none:=by
 have e:uO bC=bC:=by decide
 have key:∀ x y,(uO x=bC\/uO y=bC)->ms.find? (mtP (uO x) (uO y))=none:=fun x y h=>by
  rw [List.find?_eq_none]
  intro m hmm hp
  unfold mtP at hp
  rw [Bool.and_eq_true,beq_iff_eq,beq_iff_eq] at hp
  obtain ⟨t1,t2⟩:=hm.tau m hmm
  rcases mn_mx (uO x) (uO y) with ⟨g1,g2⟩|⟨g1,g2⟩<;>rw [g1,g2] at hp<;>rcases h with h|h<;>rw [h] at hp
  ·exact t1 hp.1
  ·exact t2 hp.2
  ·exact t2 hp.2
  ·exact t1 hp.1
 unfold mtN
 constructor
 ·split
  ·rw [key _ _ (.inl e)]
  ·rfl
 ·split
  ·rw [key _ _ (.inr e)]
  ·rfl
noncomputable def xU (n:aO) (l:aH):Option aH:=if l=bC then some bC else if l.length<=1000/\(oI l).isSome=true then (if n.Allowed.any (fun x=>((oI l).getD []) == x)=true then (if n.Hidden.any (fun x=>((oI l).getD []) == x)=true then some bC else some l) else none) else none
theorem name_some {l:aH} (h:l.length<=1000):∃ r,oI l=some r:=by
 have e:=aIE l (by omega)
 unfold aDV at e
 obtain ⟨x,hx,e⟩:=aB e
 exact ⟨x.1,by unfold oI;rw [hx,aA]⟩
theorem shown_at {n:aO} (h1:n.Allowed.length<=12) (h2:n.Hidden.length<=12) {l:aH} (hl:l.length<=1000):∃ r,aAI n l=some r/\(xU n l=if r.2=true then some r.1 else none)/\r.1.length<=1000:=by
 obtain ⟨nm,e⟩:=name_some hl
 unfold aAI xU
 rw [e,aA]
 by_cases ht:l=bC
 ·rw [if_pos (by rw [ht];rfl),if_pos ht]
  exact ⟨_,rfl,rfl,by decide⟩
 ·rw [if_neg (by simpa [bC] using ht),if_neg ht,if_pos ⟨hl,rfl⟩,aBY _ _ (by omega),aA]
  simp only [Option.getD_some]
  cases ha:n.Allowed.any (fun x=>nm == x) with
  |false=>rw [if_pos (by simp),if_neg (by simp)];exact ⟨_,rfl,by simp,by simp⟩
  |true=>
   rw [if_neg (by simp),if_pos rfl,aBY _ _ (by omega),aA]
   by_cases hh:n.Hidden.any (fun x=>nm == x)=true
   ·rw [if_pos hh,if_pos hh];exact ⟨_,rfl,rfl,by show bC.length<=1000;decide⟩
   ·rw [if_neg hh,if_neg hh];exact ⟨_,rfl,rfl,hl⟩
theorem mt_symm (ms:List bK) (a b:aH):mtN ms a b=mtN ms b a:=by
 have h:mtP (uO a) (uO b)=mtP (uO b) (uO a):=by
  funext m
  unfold mtP
  have e1:mnS (uO a) (uO b)=mnS (uO b) (uO a)/\mxS (uO a) (uO b)=mxS (uO b) (uO a):=by
   rcases aHI (uO a) (uO b) with h|h|h
   ·have g:wV (uO b) (uO a)=false:=by
     cases g:wV (uO b) (uO a) with
     |false=>rfl
     |true=>have:=uM h g;rw [lB] at this;cases this
    have h2:(uO b == uO a)=false:=by
     rw [beq_eq_false_iff_ne];intro e;rw [e,lB] at h;cases h
    unfold mnS mxS
    rw [h,g,h2];exact ⟨rfl,rfl⟩
   ·rw [h];exact ⟨rfl,rfl⟩
   ·have g:wV (uO a) (uO b)=false:=by
     cases g:wV (uO a) (uO b) with
     |false=>rfl
     |true=>have:=uM h g;rw [lB] at this;cases this
    have h2:(uO a == uO b)=false:=by
     rw [beq_eq_false_iff_ne];intro e;rw [e,lB] at h;cases h
    unfold mnS mxS
    rw [h,g,h2];exact ⟨rfl,rfl⟩
  rw [e1.1,e1.2]
 unfold mtN
 rw [h]
 by_cases h1:a∈T6/\b∈T6
 ·rw [if_pos h1,if_pos h1.symm]
  cases List.find? (mtP (uO b) (uO a)) ms with
  |none=>rfl
  |some m=>
   by_cases h2:vs6 a=vs6 b
   ·simp only;rw [if_pos h2,if_pos h2.symm,h2]
   ·simp only;rw [if_neg h2,if_neg fun e=>h2 e.symm]
 ·rw [if_neg h1,if_neg fun e=>h1 e.symm]
def MsD (ms:List bK):Prop:=ms=[]\/ms=[⟨[97],[97],[112,97,105,114]⟩]\/ms=[⟨[103,101,116],[112,117,116],[109,111,118,101]⟩]\/ms=[⟨[97],[97],[112,97,105,114]⟩,⟨[103,101,116],[112,117,116],[109,111,118,101]⟩]
theorem MsD.ok {ms:List bK} (h:MsD ms):aOQ ms:=by
 rcases h with rfl|rfl|rfl|rfl<;>exact ⟨by decide,by decide,by decide⟩
theorem MsD.mem {ms:List bK} (h:MsD ms) {m:bK} (hm:m∈ms):m=⟨[97],[97],[112,97,105,114]⟩\/m=⟨[103,101,116],[112,117,116],[109,111,118,101]⟩:=by
 rcases h with rfl|rfl|rfl|rfl<;>simp at hm<;>simp [hm]
theorem lab_pair {vs:List Int} (hv:vs=[]):labF [112,97,105,114] vs=some [112,97,105,114]:=by
 subst hv
 unfold labF
 rw [if_neg (by decide),if_pos ⟨by decide,by decide,by decide⟩];rfl
theorem aQg {vs:List Int} {d:UInt8} (hd:vs=[((d.toNat:Int) - 48)]) (h2:d=48\/d=49):labF [109,111,118,101] vs=some [109,111,118,101,40,d,41]:=by
 subst hd
 have e:Lib.itoa ((d.toNat:Int) - 48)=[d]:=by
  rcases h2 with rfl|rfl
  ·exact aNr
  ·exact aJj (c:=49) (by decide)
 unfold labF
 have hm:([((d.toNat:Int) - 48)]:List Int).all aHm=true:=by rcases h2 with rfl|rfl<;>decide
 rw [if_neg (by decide),if_pos ⟨by decide,by simp,hm⟩]
 rw [if_neg (by simp)]
 simp only [List.map_cons,List.map_nil,e,Lib.join_one]
 rfl
theorem mt_res {ms:List bK} (hm:MsD ms) {a b c:aH} (h:mtN ms a b=some c):(a∈T6/\b∈T6)/\c∈T6/\(∀ d,mtN ms c d=none):=by
 have key:∀ c∈([[109,111,118,101,40,48,41],[109,111,118,101,40,49,41],[112,97,105,114]]:List aH),c∈T6/\∀ d,mtN ms c d=none:=fun c hc=>by
  refine ⟨by revert c;decide,fun d=>?_⟩
  unfold mtN
  split
  ·have:ms.find? (mtP (uO c) (uO d))=none:=by
    rw [List.find?_eq_none]
    intro m hmm hp
    unfold mtP at hp
    rw [Bool.and_eq_true,beq_iff_eq,beq_iff_eq] at hp
    have h9:∀ c∈([[109,111,118,101,40,48,41],[109,111,118,101,40,49,41],[112,97,105,114]]:List aH),uO c≠[97]/\uO c≠[103,101,116]/\uO c≠[112,117,116]:=by decide
    have hn:m.Left≠uO c/\m.Right≠uO c:=by
     obtain ⟨q1,q2,q3⟩:=h9 c hc
     rcases hm.mem hmm with rfl|rfl
     ·exact ⟨fun e=>q1 e.symm,fun e=>q1 e.symm⟩
     ·exact ⟨fun e=>q2 e.symm,fun e=>q3 e.symm⟩
    rcases mn_mx (uO c) (uO d) with ⟨g1,g2⟩|⟨g1,g2⟩
    ·exact hn.1 (hp.1.trans g1)
    ·exact hn.2 (hp.2.trans g2)
   rw [this]
  ·rfl
 unfold mtN at h
 split at h
 ·rename_i hab
  refine ⟨hab,?_⟩
  cases hf:List.find? (mtP (uO a) (uO b)) ms with
  |none=>rw [hf] at h;cases h
  |some m=>
   rw [hf] at h
   simp only at h
   split at h
   ·have hmm:=List.mem_of_find?_eq_some hf
    have hp:=List.find?_some hf
    unfold mtP at hp
    rw [Bool.and_eq_true,beq_iff_eq,beq_iff_eq] at hp
    have hnm:uO a=m.Left\/uO a=m.Right:=by
     rcases mn_mx (uO a) (uO b) with ⟨g1,g2⟩|⟨g1,g2⟩
     ·exact .inl (by rw [hp.1,g1])
     ·exact .inr (by rw [hp.2,g2])
    have hva:∀ a∈T6,(uO a=[97]->vs6 a=[])/\(uO a=[103,101,116]\/uO a=[112,117,116]->vs6 a=[((48:UInt8).toNat:Int) - 48]\/vs6 a=[((49:UInt8).toNat:Int) - 48]):=by decide
    rcases hm.mem hmm with rfl|rfl
    ·have h1:=(hva a hab.1).1 (by rcases hnm with h|h<;>exact h)
     rw [lab_pair h1] at h
     cases h
     exact key _ (by simp)
    ·rcases (hva a hab.1).2 hnm with h1|h1
     ·rw [aQg h1 (.inl rfl)] at h
      cases h
      exact key _ (by simp)
     ·rw [aQg h1 (.inr rfl)] at h
      cases h
      exact key _ (by simp)
   ·cases h
 ·cases h
theorem sh_tau (n:aO):xU n bC=some bC:=by unfold xU;rw [if_pos rfl]
end Gv
namespace Gv
open Go
def cS (n:aO) (i:Nat):bA:=n.Parts.getD i ⟨0,0,[],[]⟩
structure aCz (t:bA):Prop where
 ok:cF t
 lab:∀ s∈t.L,s∈T6
structure iB (n:aO):Prop where
 len:1<=n.Parts.length/\n.Parts.length<=4
 part:∀ t∈n.Parts,aCz t
 meet:MsD n.Meetings
 al:n.Allowed.length<=12
 hid:n.Hidden.length<=12
def Rng (n:aO) (s:List Int):Prop:=s.length=n.Parts.length/\∀ i,i < n.Parts.length->jS (cS n i) (s.getD i 0)
def addT (i:Int) (a:List (List Int) × List cO) (x:aH × List Int):List (List Int) × List cO:=(aAF id a.1 x.2,a.2++[⟨i,x.1,atK id a.1 x.2⟩])
def cN (i:Int) (l:List (aH × List Int)) (a:List (List Int) × List cO):List (List Int) × List cO:=l.foldl (addT i) a
def see (sh:aH->Option aH) (c:aH) (t:List Int):List (aH × List Int):=match sh c with|some l=>[(l,t)]|none=>[]
def kA (n:aO) (s:List Int) (i:Nat):List Edge:=(cS n i).E.filter fun e=>e.F == s.getD i 0
noncomputable def mv3 (sh:aH->Option aH) (n:aO) (s:List Int) (i k:Nat) (e f:Edge):List (aH × List Int):=match mtN n.Meetings (oS (cS n i) e) (oS (cS n k) f) with|some c=>see sh c ((s.set i e.To).set k f.To)|none=>[]
noncomputable def mv2 (sh:aH->Option aH) (n:aO) (s:List Int) (i:Nat) (e:Edge) (k:Nat):List (aH × List Int):=(kA n s k).flatMap (mv3 sh n s i k e)
noncomputable def mv1 (sh:aH->Option aH) (n:aO) (s:List Int) (i:Nat) (e:Edge):List (aH × List Int):=see sh (oS (cS n i) e) (s.set i e.To)++(List.range' (i+1) (n.Parts.length - (i+1))).flatMap (mv2 sh n s i e)
noncomputable def mv0 (sh:aH->Option aH) (n:aO) (s:List Int) (i:Nat):List (aH × List Int):=(kA n s i).flatMap (mv1 sh n s i)
noncomputable def mvs (sh:aH->Option aH) (n:aO) (s:List Int):List (aH × List Int):=(List.range' 0 n.Parts.length).flatMap (mv0 sh n s)
theorem wU (i:Int) (l m:List (aH × List Int)) (a:List (List Int) × List cO):cN i (l++m) a=cN i m (cN i l a):=by unfold cN;rw [List.foldl_append]
theorem aKd (i:Int):∀ (l:List (aH × List Int)) (a:List (List Int) × List cO),(cN i l a).1.length<=a.1.length+l.length/\(cN i l a).2.length=a.2.length+l.length
 |[],a=>by simp [cN]
 |x::l,a=>by
  have h:=aKd i l (addT i a x)
  have h2:=aPV (key:=id) a.1 x.2
  have e:cN i (x::l) a=cN i l (addT i a x):=rfl
  rw [e]
  unfold addT at h ⊢
  simp only [List.length_append,List.length_cons,List.length_nil] at h ⊢
  omega
theorem aKe {P:List Int->Prop} (i:Int):∀ (l:List (aH × List Int)) (a:List (List Int) × List cO),(∀ S∈a.1,P S)->(∀ x∈l,P x.2)->∀ S∈(cN i l a).1,P S
 |[],_,h,_=>h
 |x::l,a,h,h2=>aKe i l (addT i a x) (insK_all (key:=id) h (h2 x (by simp))) fun y hy=>h2 y (List.mem_cons_of_mem _ hy)
theorem aDZ {α β:Type} {f:α->List β} {c:Nat}:∀ (l:List α),(∀ x∈l,(f x).length<=c)->(l.flatMap f).length<=c * l.length
 |[],_=>by simp
 |x::l,h=>by
  have h1:=aDZ l fun y hy=>h y (List.mem_cons_of_mem _ hy)
  have h2:=h x (by simp)
  rw [List.flatMap_cons,List.length_append,List.length_cons,Nat.mul_succ];omega
section
variable {sh:aH->Option aH} {n:aO} {s:List Int}
theorem sT {i:Nat} (hi:i < n.Parts.length):cS n i∈n.Parts/\n.Parts[i]?=some (cS n i):=by
 unfold cS
 rw [List.getD_eq_getElem?_getD,List.getElem?_eq_getElem hi]
 exact ⟨List.getElem_mem hi,rfl⟩
theorem iB.at (hn:iB n) {i:Nat} (hi:i < n.Parts.length):aCz (cS n i):=hn.part _ (sT hi).1
theorem aEB (hn:iB n) {i:Nat} (hi:i < n.Parts.length) {e:Edge} (he:e∈kA n s i):e∈(cS n i).E/\e.F=s.getD i 0/\jS (cS n i) e.To/\oS (cS n i) e∈T6/\(0<=e.B/\e.B.toNat < (cS n i).L.length):=by
 unfold kA at he
 obtain ⟨h1,h2⟩:=List.mem_filter.1 he
 obtain ⟨_,h3,h4⟩:=xG (hn.at hi).ok h1
 exact ⟨h1,beq_iff_eq.1 h2,h3,(hn.at hi).lab _ (vU (hn.at hi).ok h1),h4.1,by omega⟩
theorem Rng.set (hs:Rng n s) {i:Nat} {x:Int} (hi:i < n.Parts.length) (hx:jS (cS n i) x):Rng n (s.set i x):=by
 refine ⟨by rw [List.length_set];exact hs.1,fun j hj=>?_⟩
 rw [dL (by rw [hs.1];exact hi)]
 split
 ·rename_i e;subst e;exact hx
 ·exact hs.2 j hj
theorem aHO {c:aH} {t:List Int} {x:aH × List Int} (hx:x∈see sh c t):x.2=t/\sh c=some x.1:=by
 unfold see at hx
 split at hx
 ·rename_i l h
  simp at hx;subst hx;exact ⟨rfl,h⟩
 ·cases hx
theorem aLb (c:aH) (t:List Int):(see sh c t).length<=1:=by unfold see;split<;>simp
theorem aFU (hn:iB n) {i:Nat} (hi:i < n.Parts.length):(kA n s i).length<=300:=Nat.le_trans (List.length_filter_le _ _) (hn.at hi).ok.2.2.2.1
theorem aOU (i k:Nat) (e f:Edge):(mv3 sh n s i k e f).length<=1:=by
 unfold mv3
 split
 ·exact aLb _ _
 ·simp
theorem aOV (hn:iB n) {i k:Nat} (hk:k < n.Parts.length) (e:Edge):(mv2 sh n s i e k).length<=300:=by
 have:=aDZ (f:=mv3 sh n s i k e) (kA n s k) fun f _=>aOU i k e f
 have:=aFU (s:=s) hn hk
 unfold mv2;omega
theorem aOW (hn:iB n) (i:Nat) (e:Edge):(mv1 sh n s i e).length<=1201:=by
 have h1:=aDZ (f:=mv2 sh n s i e) (List.range' (i+1) (n.Parts.length - (i+1))) (c:=300) fun k hk=>aOV hn (by rw [List.mem_range'_1] at hk;omega) e
 have h2:=aLb (sh:=sh) (oS (cS n i) e) (s.set i e.To)
 have:=hn.len
 rw [List.length_range'] at h1
 unfold mv1
 rw [List.length_append];omega
theorem aOX (hn:iB n) {i:Nat} (hi:i < n.Parts.length):(mv0 sh n s i).length<=360300:=by
 have h1:=aDZ (f:=mv1 sh n s i) (kA n s i) (c:=1201) fun e _=>aOW hn i e
 have:=aFU (s:=s) hn hi
 unfold mv0;omega
theorem mvs_len (hn:iB n):(mvs sh n s).length<=1441200:=by
 have h1:=aDZ (f:=mv0 sh n s) (List.range' 0 n.Parts.length) (c:=360300) fun i hi=>aOX hn (by rw [List.mem_range'_1] at hi;omega)
 have:=hn.len
 rw [List.length_range'] at h1
 unfold mvs;omega
theorem aOY (hn:iB n) (hs:Rng n s) {i k:Nat} (hi:i < n.Parts.length) (hk:k < n.Parts.length) {e f:Edge} (he:e∈kA n s i) (hf:f∈kA n s k):∀ x∈mv3 sh n s i k e f,Rng n x.2:=by
 intro x hx
 unfold mv3 at hx
 split at hx
 ·rw [(aHO hx).1]
  exact (hs.set hi (aEB hn hi he).2.2.1).set hk (aEB hn hk hf).2.2.1
 ·cases hx
theorem aOZ (hn:iB n) (hs:Rng n s) {i k:Nat} (hi:i < n.Parts.length) (hk:k < n.Parts.length) {e:Edge} (he:e∈kA n s i):∀ x∈mv2 sh n s i e k,Rng n x.2:=by
 intro x hx
 obtain ⟨f,hf,hx⟩:=List.mem_flatMap.1 hx
 exact aOY hn hs hi hk he hf x hx
theorem aPa (hn:iB n) (hs:Rng n s) {i:Nat} (hi:i < n.Parts.length) {e:Edge} (he:e∈kA n s i):∀ x∈mv1 sh n s i e,Rng n x.2:=by
 intro x hx
 rcases List.mem_append.1 hx with hx|hx
 ·rw [(aHO hx).1];exact hs.set hi (aEB hn hi he).2.2.1
 ·obtain ⟨k,hk,hx⟩:=List.mem_flatMap.1 hx
  exact aOZ hn hs hi (by rw [List.mem_range'_1] at hk;omega) he x hx
theorem aPb (hn:iB n) (hs:Rng n s) {i:Nat} (hi:i < n.Parts.length):∀ x∈mv0 sh n s i,Rng n x.2:=by
 intro x hx
 obtain ⟨e,he,hx⟩:=List.mem_flatMap.1 hx
 exact aPa hn hs hi he x hx
theorem mvs_rng (hn:iB n) (hs:Rng n s):∀ x∈mvs sh n s,Rng n x.2:=by
 intro x hx
 obtain ⟨i,hi,hx⟩:=List.mem_flatMap.1 hx
 exact aPb hn hs (by rw [List.mem_range'_1] at hi;omega) x hx
theorem Rng.small (hn:iB n) (hs:Rng n s):∀ q∈s,0<=q/\q<=63:=by
 intro q hq
 obtain ⟨i,hi,rfl⟩:=List.getElem_of_mem hq
 have:=hs.2 i (by rw [←hs.1];exact hi)
 have h2:=(hn.at (i:=i) (by rw [←hs.1];exact hi)).ok.1
 rw [List.getD_eq_getElem?_getD,List.getElem?_eq_getElem hi] at this
 unfold jS at this
 simp only [Option.getD_some] at this
 omega
theorem netKey_eq (hn:iB n) (hs:Rng n s):rC s=some (kS s):=by
 have h:=hs.small hn
 have hl:=kS_len h
 have:=hs.1
 have:=hn.len
 unfold rC
 rw [aNl s [44] (by omega) (fun x hx=>by have:=h x hx;omega) (by show (kS s).length < jT;unfold jT;omega)]
 rfl
theorem aGr (hn:iB n) {F:List (List Int)} (hF:∀ S∈F,Rng n S) (hs:Rng n s) (hl:F.length<=10000000000) (arcs:List cO):
  dP F (mq 0 (F.map kS)) arcs s=some (atK id F s,aAF id F s,mq 0 ((aAF id F s).map kS)):=by
 have hk:∀ x∈F,kS x=kS s->x=s:=fun x hx e=>kS_inj ((hF x hx).small hn) (hs.small hn) e
 unfold dP
 rw [netKey_eq hn hs,aA]
 unfold atK aAF
 rw [List.map_id]
 by_cases hm:s∈F
 ·rw [mget_in ((key_in hk).2 hm),if_neg (by simp),if_pos (show id s∈F from hm),if_pos (show id s∈F from hm),pos_inj hk]
  rfl
 ·have hm':kS s∉F.map kS:=fun h=>hm ((key_in hk).1 h)
  rw [aPS hm',if_pos (by simp),if_neg (show ¬ id s∈F from hm),if_neg (show ¬ id s∈F from hm)]
  have h1:aDA (mq 0 (F.map kS)) (kS s) (F.length:Int)=mq 0 ((F++[s]).map kS):=by
   have:=aOw (k:=0) hm'
   rw [Nat.zero_add,List.length_map] at this
   rw [this,List.map_append];rfl
  rw [aA,h1,dC (by simp [jT];omega),aA]
  rfl
theorem put_at (hn:iB n) {c:aH} (hc:c.length<=1000) {t:List Int} (ht:Rng n t) {a:List (List Int) × List cO} (hg:∀ S∈a.1,Rng n S) (h1:a.1.length<=10000000000) (h2:a.2.length<=10000000000) (i:Nat):
  jK c t n a.1 (mq 0 (a.1.map kS)) a.2 (i:Int)=some ((cN i (see (xU n) c t) a).1,mq 0 ((cN i (see (xU n) c t) a).1.map kS),(cN i (see (xU n) c t) a).2):=by
 obtain ⟨r,e1,e2,_⟩:=shown_at hn.al hn.hid hc
 unfold jK
 rw [e1,aA]
 unfold see
 rw [e2]
 by_cases hr:r.2=true
 ·rw [if_pos hr,if_pos hr]
  unfold kT
  rw [aGr hn hg ht h1,aA,dC (by simp [jT];omega),aA]
  rfl
 ·rw [if_neg hr,if_neg hr];rfl
theorem put_atA (hn:iB n) {c:aH} {t:List Int} (ht:Rng n t) {a:List (List Int) × List cO} (hg:∀ S∈a.1,Rng n S) (h1:a.1.length<=10000000000) (h2:a.2.length<=10000000000) (i:Nat):
  gW c t a.1 (mq 0 (a.1.map kS)) a.2 (i:Int)=some ((cN i (see some c t) a).1,mq 0 ((cN i (see some c t) a).1.map kS),(cN i (see some c t) a).2):=by
 unfold gW tB
 rw [aA]
 unfold see
 rw [if_pos rfl]
 unfold kT
 rw [aGr hn hg ht h1,aA,dC (by simp [jT];omega),aA]
 rfl
end
end Gv
namespace Gv
open Go
section
variable {sh:aH->Option aH} {n:aO} {s:List Int}
structure Gd (n:aO) (b b':Nat) (a:List (List Int) × List cO):Prop where
 rng:∀ S∈a.1,Rng n S
 l1:a.1.length<=b
 l2:a.2.length<=b'
theorem Gd.add {b b' c:Nat} {a:List (List Int) × List cO} (h:Gd n b b' a) (i:Int) {l:List (aH × List Int)} (hr:∀ x∈l,Rng n x.2) (hl:l.length<=c):Gd n (b+c) (b'+c) (cN i l a):=by
 have:=aKd i l a
 have:=h.l1
 have:=h.l2
 exact ⟨aKe i l a h.rng hr,by omega,by omega⟩
theorem Gd.le {b b' c c':Nat} {a:List (List Int) × List cO} (h:Gd n b b' a) (h1:b<=c) (h2:b'<=c'):Gd n c c' a:=⟨h.rng,Nat.le_trans h.l1 h1,Nat.le_trans h.l2 h2⟩
theorem t6_len {c:aH} (h:c∈T6):c.length<=110:=by
 have:∀ c∈T6,c.length<=110:=by decide
 exact this c h
theorem aLc (hn:iB n) (hs:Rng n s) {i:Nat} (hi:i < n.Parts.length) (x:Int):kG (i:Int) x s=some (s.set i x):=by
 have hl:=hs.1
 have:=hn.len
 unfold kG bY
 rw [dC (by simp [jT];omega),aA,List.nil_append,aA,cG (by rw [hl];exact hi),aA,aBu _ (by rw [hl];exact hi),aA]
theorem aPc (hn:iB n) {i:Nat} (hi:i < n.Parts.length) {e:Edge} (he:e∈kA n s i):ix (cS n i).L e.B=some (oS (cS n i) e):=by
 obtain ⟨_,_,_,_,h1,h2⟩:=aEB hn hi he
 have e0:e.B=((e.B.toNat:Nat):Int):=by omega
 have:=cG h2
 rw [←e0] at this
 rw [this]
 unfold oS
 rw [List.getD_eq_getElem?_getD,List.getElem?_eq_getElem h2];rfl
theorem uN {α:Type} {xs:List α} {k:Nat} {x:α} (h:ix xs (k:Int)=some x):x∈xs:=by
 rw [rS] at h;exact List.mem_of_getElem? h
theorem aGs {k m:Nat} (h:k < m):List.range' k (m - k)=k::List.range' (k+1) (m - (k+1)):=by
 rw [show m - k=(m - (k+1))+1 by omega,List.range'_succ]
theorem lv3s (hn:iB n) (hs:Rng n s) {i k:Nat} (hi:i < n.Parts.length) (hk:k < n.Parts.length) {e f:Edge} (he:e∈kA n s i) (hf:f∈kA n s k) (idx:Nat) {b b':Nat} {a:List (List Int) × List cO} (hI:Gd n b b' a) (h1:b<=9500000000) (h2:b'<=9500000000) {j:Nat} (hj:j < (kA n s k).length) (hx:ix (kA n s k) (j:Int)=some f) (hol:(kA n s k).length<=300):
 kH n s n (idx:Int) (i:Int) e (oS (cS n i) e) (k:Int) (cS n k) (kA n s k) (j:Int) a.1 (mq 0 (a.1.map kS)) a.2=some (.inl (((j+1:Nat):Int),(cN idx (mv3 (xU n) n s i k e f) a).1,mq 0 ((cN idx (mv3 (xU n) n s i k e f) a).1.map kS),(cN idx (mv3 (xU n) n s i k e f) a).2)):=by
  obtain ⟨_,_,eT,e6,_⟩:=aEB hn hi he
  obtain ⟨_,_,fT,f6,_⟩:=aEB hn hk hf
  have hw:=bQ hj (show (kA n s k).length < 4611686018427387904 by omega)
  obtain ⟨r,m1,m2,m3⟩:=meet_at hn.meet.ok e6 f6
  have g1:=hI.l1
  have g2:=hI.l2
  have e3:mv3 (xU n) n s i k e f=if r.2=true then see (xU n) r.1 ((s.set i e.To).set k f.To) else []:=by
   unfold mv3
   rw [m2]
   by_cases hr:r.2=true
   ·rw [if_pos hr,if_pos hr]
   ·rw [if_neg hr,if_neg hr]
  rw [e3]
  generalize hE:(cN (idx:Int))=AT
  unfold kH
  rw [if_pos (bU hj),hx,aA,aPc hn hk hf,aA,m1,aA]
  have hs1:=hs.set hi eT
  have hp:=put_at hn (show r.1.length<=1000 by omega) (hs1.set hk fT) hI.rng (by omega) (by omega) idx
  rw [hE] at hp
  by_cases hr:r.2=true
  ·rw [if_pos hr,if_pos hr,aLc hn hs hi,aA,cG (by rw [hs1.1];exact hk),aA,aBu _ (by rw [hs1.1];exact hk),aA,hp,aA]
   unfold nT
   rw [hw]
  ·rw [if_neg hr,if_neg hr]
   unfold nT
   rw [hw,←hE];rfl
theorem lv3 (hn:iB n) (hs:Rng n s) {i k:Nat} (hik:i < k) (hk:k < n.Parts.length) {e:Edge} (he:e∈kA n s i) (idx:Nat) {b b':Nat} {a:List (List Int) × List cO} (hg:Gd n b b' a) (h1:b<=9000000000) (h2:b'<=9000000000):
  loop (fun x:Int × List (List Int) × List (aH × Int) × List cO=>kH n s n (idx:Int) (i:Int) e (oS (cS n i) e) (k:Int) (cS n k) (kA n s k) x.1 x.2.1 x.2.2.1 x.2.2.2) (0,a.1,mq 0 (a.1.map kS),a.2)=
   some ((cN idx (mv2 (xU n) n s i e k) a).1,mq 0 ((cN idx (mv2 (xU n) n s i e k) a).1.map kS),(cN idx (mv2 (xU n) n s i e k) a).2):=by
 have hi:i < n.Parts.length:=by omega
 have hol:=aFU (s:=s) hn hk
 refine lH (step:=fun x:Int × List (List Int) × List (aH × Int) × List cO=>kH n s n (idx:Int) (i:Int) e (oS (cS n i) e) (k:Int) (cS n k) (kA n s k) x.1 x.2.1 x.2.2.1 x.2.2.2) (kA n s k) (fun j (a:List (List Int) × List cO)=>((j:Int),a.1,mq 0 (a.1.map kS),a.2))
  (fun l a=>((cN idx (l.flatMap (mv3 (xU n) n s i k e)) a).1,mq 0 ((cN idx (l.flatMap (mv3 (xU n) n s i k e)) a).1.map kS),(cN idx (l.flatMap (mv3 (xU n) n s i k e)) a).2)) (fun j a=>Gd n (b+j) (b'+j) a) (fun j a f l hj hx hI=>?_) (fun a hI=>?_) hg
 ·left
  have hf:=uN hx
  exact ⟨cN idx (mv3 (xU n) n s i k e f) a,lv3s hn hs hi hk he hf idx hI (by omega) (by omega) hj hx hol,hI.add idx (aOY hn hs hi hk he hf) (aOU i k e f),by rw [List.flatMap_cons,wU]⟩
 ·show kH n s n (idx:Int) (i:Int) e (oS (cS n i) e) (k:Int) (cS n k) (kA n s k) ((kA n s k).length:Int) a.1 (mq 0 (a.1.map kS)) a.2=_
  unfold kH
  rw [if_neg (by simp)];rfl
set_option maxRecDepth 8000 in
theorem lv2 (hn:iB n) (hs:Rng n s) {i:Nat} (hi:i < n.Parts.length) {e:Edge} (he:e∈kA n s i) (idx:Nat) {b b':Nat} {a:List (List Int) × List cO} (hg:Gd n b b' a) (h1:b<=8000000000) (h2:b'<=8000000000):
  loop (fun x:Int × List (List Int) × List (aH × Int) × List cO=>jP n s n (idx:Int) (i:Int) e (oS (cS n i) e) x.1 x.2.1 x.2.2.1 x.2.2.2) (((i+1:Nat):Int),a.1,mq 0 (a.1.map kS),a.2)=
   some ((cN idx ((List.range' (i+1) (n.Parts.length - (i+1))).flatMap (mv2 (xU n) n s i e)) a).1,mq 0 ((cN idx ((List.range' (i+1) (n.Parts.length - (i+1))).flatMap (mv2 (xU n) n s i e)) a).1.map kS),(cN idx ((List.range' (i+1) (n.Parts.length - (i+1))).flatMap (mv2 (xU n) n s i e)) a).2):=by
 have hnl:=hn.len
 refine tR (step:=fun x:Int × List (List Int) × List (aH × Int) × List cO=>jP n s n (idx:Int) (i:Int) e (oS (cS n i) e) x.1 x.2.1 x.2.2.1 x.2.2.2) n.Parts.length (fun k (a:List (List Int) × List cO)=>((k:Int),a.1,mq 0 (a.1.map kS),a.2))
  (fun k a=>((cN idx ((List.range' k (n.Parts.length - k)).flatMap (mv2 (xU n) n s i e)) a).1,mq 0 ((cN idx ((List.range' k (n.Parts.length - k)).flatMap (mv2 (xU n) n s i e)) a).1.map kS),(cN idx ((List.range' k (n.Parts.length - k)).flatMap (mv2 (xU n) n s i e)) a).2)) (fun k a=>i < k/\Gd n (b+300 * k) (b'+300 * k) a) (fun k a hk hI=>?_) (fun a hI=>?_) (n.Parts.length - (i+1)) (i+1) a (by omega) ⟨by omega,hg.le (by omega) (by omega)⟩
 ·left
  have hw:=bQ hk (show n.Parts.length < 4611686018427387904 by omega)
  have hks:k < s.length:=by rw [hs.1];exact hk
  refine ⟨cN idx (mv2 (xU n) n s i e k) a,?_,⟨by omega,(hI.2.add idx (aOZ hn hs hi hk he) (aOV hn hk e)).le (by omega) (by omega)⟩,by rw [aGs hk,List.flatMap_cons,wU]⟩
  show jP n s n (idx:Int) (i:Int) e (oS (cS n i) e) (k:Int) a.1 (mq 0 (a.1.map kS)) a.2=_
  unfold jP
  have ho:nR (cS n k) s[k]=some (kA n s k):=by
   have:=(hn.at hk).ok.2.2.2.1
   rw [aLQ _ _ (by omega)]
   unfold kA
   rw [List.getD_eq_getElem?_getD,List.getElem?_eq_getElem hks];rfl
  rw [if_pos (bU hk),rS,(sT hk).2,aA,cG hks,aA,ho,aA,lv3 hn hs hI.1 hk he idx hI.2 (by omega) (by omega),aA]
  unfold vK vJ
  rw [hw]
 ·show jP n s n (idx:Int) (i:Int) e (oS (cS n i) e) (n.Parts.length:Int) a.1 (mq 0 (a.1.map kS)) a.2=_
  unfold jP
  rw [if_neg (by simp),Nat.sub_self];rfl
theorem lv1s (hn:iB n) (hs:Rng n s) {i:Nat} (hi:i < n.Parts.length) (idx:Nat) {b b':Nat} {a:List (List Int) × List cO} {e:Edge} (he:e∈kA n s i) (hI:Gd n b b' a) (h1:b<=7200000000) (h2:b'<=7200000000) {j:Nat} (hj:j < (kA n s i).length) (hx:ix (kA n s i) (j:Int)=some e) (hol:(kA n s i).length<=300):
  jQ n s n (idx:Int) (i:Int) (cS n i) (kA n s i) (j:Int) a.1 (mq 0 (a.1.map kS)) a.2=some (.inl (((j+1:Nat):Int),(cN idx (mv1 (xU n) n s i e) a).1,mq 0 ((cN idx (mv1 (xU n) n s i e) a).1.map kS),(cN idx (mv1 (xU n) n s i e) a).2)):=by
 have hnl:=hn.len
 obtain ⟨_,_,eT,e6,_⟩:=aEB hn hi he
 have hw:=bQ hj (show (kA n s i).length < 4611686018427387904 by omega)
 have hwi:wr ((i:Int)+1)=((i+1:Nat):Int):=bQ hi (by omega)
 have hg1:=hI.add (c:=1) idx (l:=see (xU n) (oS (cS n i) e) (s.set i e.To)) (fun x hx=>by rw [(aHO hx).1];exact hs.set hi eT) (aLb _ _)
 have h6:=t6_len e6
 have i1:=hI.l1
 have i2:=hI.l2
 have hp:=put_at hn (show (oS (cS n i) e).length<=1000 by omega) (hs.set hi eT) hI.rng (by omega) (by omega) idx
 have hq:=lv2 hn hs hi he idx hg1 (by omega) (by omega)
 unfold mv1
 rw [wU]
 generalize cN (idx:Int) (see (xU n) (oS (cS n i) e) (s.set i e.To)) a=A at hp hq ⊢
 generalize cN (idx:Int) ((List.range' (i+1) (n.Parts.length - (i+1))).flatMap (mv2 (xU n) n s i e)) A=A2 at hq ⊢
 unfold jQ
 rw [if_pos (bU hj),hx,aA,aPc hn hi he,aA,aLc hn hs hi,aA,hp,aA,hwi]
 simp only
 rw [hq,aA]
 unfold qI vI
 rw [hw]
theorem lv1 (hn:iB n) (hs:Rng n s) {i:Nat} (hi:i < n.Parts.length) (idx:Nat) {b b':Nat} {a:List (List Int) × List cO} (hg:Gd n b b' a) (h1:b<=7000000000) (h2:b'<=7000000000):
  loop (fun x:Int × List (List Int) × List (aH × Int) × List cO=>jQ n s n (idx:Int) (i:Int) (cS n i) (kA n s i) x.1 x.2.1 x.2.2.1 x.2.2.2) (0,a.1,mq 0 (a.1.map kS),a.2)=
   some ((cN idx (mv0 (xU n) n s i) a).1,mq 0 ((cN idx (mv0 (xU n) n s i) a).1.map kS),(cN idx (mv0 (xU n) n s i) a).2):=by
 have hol:=aFU (s:=s) hn hi
 have hnl:=hn.len
 refine lH (step:=fun x:Int × List (List Int) × List (aH × Int) × List cO=>jQ n s n (idx:Int) (i:Int) (cS n i) (kA n s i) x.1 x.2.1 x.2.2.1 x.2.2.2) (kA n s i) (fun j (a:List (List Int) × List cO)=>((j:Int),a.1,mq 0 (a.1.map kS),a.2))
  (fun l a=>((cN idx (l.flatMap (mv1 (xU n) n s i)) a).1,mq 0 ((cN idx (l.flatMap (mv1 (xU n) n s i)) a).1.map kS),(cN idx (l.flatMap (mv1 (xU n) n s i)) a).2)) (fun j a=>Gd n (b+1201 * j) (b'+1201 * j) a) (fun j a e l hj hx hI=>?_) (fun a hI=>?_) hg
 ·left
  have he:=uN hx
  exact ⟨cN idx (mv1 (xU n) n s i e) a,lv1s hn hs hi idx he hI (by omega) (by omega) hj hx hol,(hI.add idx (aPa hn hs hi he) (aOW hn i e)).le (by omega) (by omega),by rw [List.flatMap_cons,wU]⟩
 ·show jQ n s n (idx:Int) (i:Int) (cS n i) (kA n s i) ((kA n s i).length:Int) a.1 (mq 0 (a.1.map kS)) a.2=_
  unfold jQ
  rw [if_neg (by simp)];rfl
theorem aQh (hn:iB n) (hs:Rng n s) (idx:Nat) {b b':Nat} {a:List (List Int) × List cO} (hg:Gd n b b' a) (h1:b<=6000000000) (h2:b'<=6000000000):
  wB n s n a.1 (mq 0 (a.1.map kS)) a.2 (idx:Int)=some ((cN idx (mvs (xU n) n s) a).1,mq 0 ((cN idx (mvs (xU n) n s) a).1.map kS),(cN idx (mvs (xU n) n s) a).2):=by
 have hnl:=hn.len
 have:=tR (step:=fun x:Int × List (List Int) × List (aH × Int) × List cO=>jR n s n (idx:Int) x.1 x.2.1 x.2.2.1 x.2.2.2) n.Parts.length (fun k (a:List (List Int) × List cO)=>((k:Int),a.1,mq 0 (a.1.map kS),a.2))
  (fun k a=>((cN idx ((List.range' k (n.Parts.length - k)).flatMap (mv0 (xU n) n s)) a).1,mq 0 ((cN idx ((List.range' k (n.Parts.length - k)).flatMap (mv0 (xU n) n s)) a).1.map kS),(cN idx ((List.range' k (n.Parts.length - k)).flatMap (mv0 (xU n) n s)) a).2)) (fun k a=>Gd n (b+360300 * k) (b'+360300 * k) a) (fun k a hk hI=>?_) (fun a hI=>?_) n.Parts.length 0 a (by omega) hg
 ·unfold wB
  rw [show loop (fun x:Int × List (List Int) × List (aH × Int) × List cO=>jR n s n (idx:Int) x.1 x.2.1 x.2.2.1 x.2.2.2) (0,a.1,mq 0 (a.1.map kS),a.2)=_ from this,aA]
  rfl
 ·left
  have hw:=bQ hk (show n.Parts.length < 4611686018427387904 by omega)
  have hks:k < s.length:=by rw [hs.1];exact hk
  refine ⟨cN idx (mv0 (xU n) n s k) a,?_,(hI.add idx (aPb hn hs hk) (aOX hn hk)).le (by omega) (by omega),by rw [aGs hk,List.flatMap_cons,wU]⟩
  show jR n s n (idx:Int) (k:Int) a.1 (mq 0 (a.1.map kS)) a.2=_
  unfold jR
  have ho:nR (cS n k) s[k]=some (kA n s k):=by
   have:=(hn.at hk).ok.2.2.2.1
   rw [aLQ _ _ (by omega)]
   unfold kA
   rw [List.getD_eq_getElem?_getD,List.getElem?_eq_getElem hks];rfl
  rw [if_pos (bU hk),rS,(sT hk).2,aA,cG hks,aA,ho,aA,lv1 hn hs hk idx hI (by omega) (by omega),aA]
  unfold vH vG
  rw [hw]
 ·show jR n s n (idx:Int) (n.Parts.length:Int) a.1 (mq 0 (a.1.map kS)) a.2=_
  unfold jR
  rw [if_neg (by simp),Nat.sub_self];rfl
theorem lv3sA (hn:iB n) (hs:Rng n s) {i k:Nat} (hi:i < n.Parts.length) (hk:k < n.Parts.length) {e f:Edge} (he:e∈kA n s i) (hf:f∈kA n s k) (idx:Nat) {b b':Nat} {a:List (List Int) × List cO} (hI:Gd n b b' a) (h1:b<=9500000000) (h2:b'<=9500000000) {j:Nat} (hj:j < (kA n s k).length) (hx:ix (kA n s k) (j:Int)=some f) (hol:(kA n s k).length<=300):
 hJ n s (idx:Int) (i:Int) e (oS (cS n i) e) (k:Int) (cS n k) (kA n s k) (j:Int) a.1 (mq 0 (a.1.map kS)) a.2=some (.inl (((j+1:Nat):Int),(cN idx (mv3 some n s i k e f) a).1,mq 0 ((cN idx (mv3 some n s i k e f) a).1.map kS),(cN idx (mv3 some n s i k e f) a).2)):=by
  obtain ⟨_,_,eT,e6,_⟩:=aEB hn hi he
  obtain ⟨_,_,fT,f6,_⟩:=aEB hn hk hf
  have hw:=bQ hj (show (kA n s k).length < 4611686018427387904 by omega)
  obtain ⟨r,m1,m2,m3⟩:=meet_at hn.meet.ok e6 f6
  have g1:=hI.l1
  have g2:=hI.l2
  have e3:mv3 some n s i k e f=if r.2=true then see some r.1 ((s.set i e.To).set k f.To) else []:=by
   unfold mv3
   rw [m2]
   by_cases hr:r.2=true
   ·rw [if_pos hr,if_pos hr]
   ·rw [if_neg hr,if_neg hr]
  rw [e3]
  generalize hE:(cN (idx:Int))=AT
  unfold hJ
  rw [if_pos (bU hj),hx,aA,aPc hn hk hf,aA,m1,aA]
  have hs1:=hs.set hi eT
  have hp:=put_atA hn (c:=r.1) (hs1.set hk fT) hI.rng (by omega) (by omega) idx
  rw [hE] at hp
  by_cases hr:r.2=true
  ·rw [if_pos hr,if_pos hr,aLc hn hs hi,aA,cG (by rw [hs1.1];exact hk),aA,aBu _ (by rw [hs1.1];exact hk),aA,hp,aA]
   unfold lG
   rw [hw]
  ·rw [if_neg hr,if_neg hr]
   unfold lG
   rw [hw,←hE];rfl
theorem lv3A (hn:iB n) (hs:Rng n s) {i k:Nat} (hik:i < k) (hk:k < n.Parts.length) {e:Edge} (he:e∈kA n s i) (idx:Nat) {b b':Nat} {a:List (List Int) × List cO} (hg:Gd n b b' a) (h1:b<=9000000000) (h2:b'<=9000000000):
  loop (fun x:Int × List (List Int) × List (aH × Int) × List cO=>hJ n s (idx:Int) (i:Int) e (oS (cS n i) e) (k:Int) (cS n k) (kA n s k) x.1 x.2.1 x.2.2.1 x.2.2.2) (0,a.1,mq 0 (a.1.map kS),a.2)=
   some ((cN idx (mv2 some n s i e k) a).1,mq 0 ((cN idx (mv2 some n s i e k) a).1.map kS),(cN idx (mv2 some n s i e k) a).2):=by
 have hi:i < n.Parts.length:=by omega
 have hol:=aFU (s:=s) hn hk
 refine lH (step:=fun x:Int × List (List Int) × List (aH × Int) × List cO=>hJ n s (idx:Int) (i:Int) e (oS (cS n i) e) (k:Int) (cS n k) (kA n s k) x.1 x.2.1 x.2.2.1 x.2.2.2) (kA n s k) (fun j (a:List (List Int) × List cO)=>((j:Int),a.1,mq 0 (a.1.map kS),a.2))
  (fun l a=>((cN idx (l.flatMap (mv3 some n s i k e)) a).1,mq 0 ((cN idx (l.flatMap (mv3 some n s i k e)) a).1.map kS),(cN idx (l.flatMap (mv3 some n s i k e)) a).2)) (fun j a=>Gd n (b+j) (b'+j) a) (fun j a f l hj hx hI=>?_) (fun a hI=>?_) hg
 ·left
  have hf:=uN hx
  exact ⟨cN idx (mv3 some n s i k e f) a,lv3sA hn hs hi hk he hf idx hI (by omega) (by omega) hj hx hol,hI.add idx (aOY hn hs hi hk he hf) (aOU i k e f),by rw [List.flatMap_cons,wU]⟩
 ·show hJ n s (idx:Int) (i:Int) e (oS (cS n i) e) (k:Int) (cS n k) (kA n s k) ((kA n s k).length:Int) a.1 (mq 0 (a.1.map kS)) a.2=_
  unfold hJ
  rw [if_neg (by simp)];rfl
set_option maxRecDepth 8000 in
theorem lv2A (hn:iB n) (hs:Rng n s) {i:Nat} (hi:i < n.Parts.length) {e:Edge} (he:e∈kA n s i) (idx:Nat) {b b':Nat} {a:List (List Int) × List cO} (hg:Gd n b b' a) (h1:b<=8000000000) (h2:b'<=8000000000):
  loop (fun x:Int × List (List Int) × List (aH × Int) × List cO=>gK n s (idx:Int) (i:Int) e (oS (cS n i) e) x.1 x.2.1 x.2.2.1 x.2.2.2) (((i+1:Nat):Int),a.1,mq 0 (a.1.map kS),a.2)=
   some ((cN idx ((List.range' (i+1) (n.Parts.length - (i+1))).flatMap (mv2 some n s i e)) a).1,mq 0 ((cN idx ((List.range' (i+1) (n.Parts.length - (i+1))).flatMap (mv2 some n s i e)) a).1.map kS),(cN idx ((List.range' (i+1) (n.Parts.length - (i+1))).flatMap (mv2 some n s i e)) a).2):=by
 have hnl:=hn.len
 refine tR (step:=fun x:Int × List (List Int) × List (aH × Int) × List cO=>gK n s (idx:Int) (i:Int) e (oS (cS n i) e) x.1 x.2.1 x.2.2.1 x.2.2.2) n.Parts.length (fun k (a:List (List Int) × List cO)=>((k:Int),a.1,mq 0 (a.1.map kS),a.2))
  (fun k a=>((cN idx ((List.range' k (n.Parts.length - k)).flatMap (mv2 some n s i e)) a).1,mq 0 ((cN idx ((List.range' k (n.Parts.length - k)).flatMap (mv2 some n s i e)) a).1.map kS),(cN idx ((List.range' k (n.Parts.length - k)).flatMap (mv2 some n s i e)) a).2)) (fun k a=>i < k/\Gd n (b+300 * k) (b'+300 * k) a) (fun k a hk hI=>?_) (fun a hI=>?_) (n.Parts.length - (i+1)) (i+1) a (by omega) ⟨by omega,hg.le (by omega) (by omega)⟩
 ·left
  have hw:=bQ hk (show n.Parts.length < 4611686018427387904 by omega)
  have hks:k < s.length:=by rw [hs.1];exact hk
  refine ⟨cN idx (mv2 some n s i e k) a,?_,⟨by omega,(hI.2.add idx (aOZ hn hs hi hk he) (aOV hn hk e)).le (by omega) (by omega)⟩,by rw [aGs hk,List.flatMap_cons,wU]⟩
  show gK n s (idx:Int) (i:Int) e (oS (cS n i) e) (k:Int) a.1 (mq 0 (a.1.map kS)) a.2=_
  unfold gK
  have ho:nR (cS n k) s[k]=some (kA n s k):=by
   have:=(hn.at hk).ok.2.2.2.1
   rw [aLQ _ _ (by omega)]
   unfold kA
   rw [List.getD_eq_getElem?_getD,List.getElem?_eq_getElem hks];rfl
  rw [if_pos (bU hk),rS,(sT hk).2,aA,cG hks,aA,ho,aA,lv3A hn hs hI.1 hk he idx hI.2 (by omega) (by omega),aA]
  unfold rM rL
  rw [hw]
 ·show gK n s (idx:Int) (i:Int) e (oS (cS n i) e) (n.Parts.length:Int) a.1 (mq 0 (a.1.map kS)) a.2=_
  unfold gK
  rw [if_neg (by simp),Nat.sub_self];rfl
theorem lv1sA (hn:iB n) (hs:Rng n s) {i:Nat} (hi:i < n.Parts.length) (idx:Nat) {b b':Nat} {a:List (List Int) × List cO} {e:Edge} (he:e∈kA n s i) (hI:Gd n b b' a) (h1:b<=7200000000) (h2:b'<=7200000000) {j:Nat} (hj:j < (kA n s i).length) (hx:ix (kA n s i) (j:Int)=some e) (hol:(kA n s i).length<=300):
  gL n s (idx:Int) (i:Int) (cS n i) (kA n s i) (j:Int) a.1 (mq 0 (a.1.map kS)) a.2=some (.inl (((j+1:Nat):Int),(cN idx (mv1 some n s i e) a).1,mq 0 ((cN idx (mv1 some n s i e) a).1.map kS),(cN idx (mv1 some n s i e) a).2)):=by
 have hnl:=hn.len
 obtain ⟨_,_,eT,e6,_⟩:=aEB hn hi he
 have hw:=bQ hj (show (kA n s i).length < 4611686018427387904 by omega)
 have hwi:wr ((i:Int)+1)=((i+1:Nat):Int):=bQ hi (by omega)
 have hg1:=hI.add (c:=1) idx (l:=see some (oS (cS n i) e) (s.set i e.To)) (fun x hx=>by rw [(aHO hx).1];exact hs.set hi eT) (aLb _ _)
 have h6:=t6_len e6
 have i1:=hI.l1
 have i2:=hI.l2
 have hp:=put_atA hn (c:=oS (cS n i) e) (hs.set hi eT) hI.rng (by omega) (by omega) idx
 have hq:=lv2A hn hs hi he idx hg1 (by omega) (by omega)
 unfold mv1
 rw [wU]
 generalize cN (idx:Int) (see some (oS (cS n i) e) (s.set i e.To)) a=A at hp hq ⊢
 generalize cN (idx:Int) ((List.range' (i+1) (n.Parts.length - (i+1))).flatMap (mv2 some n s i e)) A=A2 at hq ⊢
 unfold gL
 rw [if_pos (bU hj),hx,aA,aPc hn hi he,aA,aLc hn hs hi,aA,hp,aA,hwi]
 simp only
 rw [hq,aA]
 unfold nL rK
 rw [hw]
theorem lv1A (hn:iB n) (hs:Rng n s) {i:Nat} (hi:i < n.Parts.length) (idx:Nat) {b b':Nat} {a:List (List Int) × List cO} (hg:Gd n b b' a) (h1:b<=7000000000) (h2:b'<=7000000000):
  loop (fun x:Int × List (List Int) × List (aH × Int) × List cO=>gL n s (idx:Int) (i:Int) (cS n i) (kA n s i) x.1 x.2.1 x.2.2.1 x.2.2.2) (0,a.1,mq 0 (a.1.map kS),a.2)=
   some ((cN idx (mv0 some n s i) a).1,mq 0 ((cN idx (mv0 some n s i) a).1.map kS),(cN idx (mv0 some n s i) a).2):=by
 have hol:=aFU (s:=s) hn hi
 have hnl:=hn.len
 refine lH (step:=fun x:Int × List (List Int) × List (aH × Int) × List cO=>gL n s (idx:Int) (i:Int) (cS n i) (kA n s i) x.1 x.2.1 x.2.2.1 x.2.2.2) (kA n s i) (fun j (a:List (List Int) × List cO)=>((j:Int),a.1,mq 0 (a.1.map kS),a.2))
  (fun l a=>((cN idx (l.flatMap (mv1 some n s i)) a).1,mq 0 ((cN idx (l.flatMap (mv1 some n s i)) a).1.map kS),(cN idx (l.flatMap (mv1 some n s i)) a).2)) (fun j a=>Gd n (b+1201 * j) (b'+1201 * j) a) (fun j a e l hj hx hI=>?_) (fun a hI=>?_) hg
 ·left
  have he:=uN hx
  exact ⟨cN idx (mv1 some n s i e) a,lv1sA hn hs hi idx he hI (by omega) (by omega) hj hx hol,(hI.add idx (aPa hn hs hi he) (aOW hn i e)).le (by omega) (by omega),by rw [List.flatMap_cons,wU]⟩
 ·show gL n s (idx:Int) (i:Int) (cS n i) (kA n s i) ((kA n s i).length:Int) a.1 (mq 0 (a.1.map kS)) a.2=_
  unfold gL
  rw [if_neg (by simp)];rfl
theorem aPd (hn:iB n) (hs:Rng n s) (idx:Nat) {b b':Nat} {a:List (List Int) × List cO} (hg:Gd n b b' a) (h1:b<=6000000000) (h2:b'<=6000000000):
  qW n s a.1 (mq 0 (a.1.map kS)) a.2 (idx:Int)=some ((cN idx (mvs some n s) a).1,mq 0 ((cN idx (mvs some n s) a).1.map kS),(cN idx (mvs some n s) a).2):=by
 have hnl:=hn.len
 have:=tR (step:=fun x:Int × List (List Int) × List (aH × Int) × List cO=>gM n s (idx:Int) x.1 x.2.1 x.2.2.1 x.2.2.2) n.Parts.length (fun k (a:List (List Int) × List cO)=>((k:Int),a.1,mq 0 (a.1.map kS),a.2))
  (fun k a=>((cN idx ((List.range' k (n.Parts.length - k)).flatMap (mv0 some n s)) a).1,mq 0 ((cN idx ((List.range' k (n.Parts.length - k)).flatMap (mv0 some n s)) a).1.map kS),(cN idx ((List.range' k (n.Parts.length - k)).flatMap (mv0 some n s)) a).2)) (fun k a=>Gd n (b+360300 * k) (b'+360300 * k) a) (fun k a hk hI=>?_) (fun a hI=>?_) n.Parts.length 0 a (by omega) hg
 ·unfold qW
  rw [show loop (fun x:Int × List (List Int) × List (aH × Int) × List cO=>gM n s (idx:Int) x.1 x.2.1 x.2.2.1 x.2.2.2) (0,a.1,mq 0 (a.1.map kS),a.2)=_ from this,aA]
  rfl
 ·left
  have hw:=bQ hk (show n.Parts.length < 4611686018427387904 by omega)
  have hks:k < s.length:=by rw [hs.1];exact hk
  refine ⟨cN idx (mv0 some n s k) a,?_,(hI.add idx (aPb hn hs hk) (aOX hn hk)).le (by omega) (by omega),by rw [aGs hk,List.flatMap_cons,wU]⟩
  show gM n s (idx:Int) (k:Int) a.1 (mq 0 (a.1.map kS)) a.2=_
  unfold gM
  have ho:nR (cS n k) s[k]=some (kA n s k):=by
   have:=(hn.at hk).ok.2.2.2.1
   rw [aLQ _ _ (by omega)]
   unfold kA
   rw [List.getD_eq_getElem?_getD,List.getElem?_eq_getElem hks];rfl
  rw [if_pos (bU hk),rS,(sT hk).2,aA,cG hks,aA,ho,aA,lv1A hn hs hk idx hI (by omega) (by omega),aA]
  unfold rJ rI
  rw [hw]
 ·show gM n s (idx:Int) (n.Parts.length:Int) a.1 (mq 0 (a.1.map kS)) a.2=_
  unfold gM
  rw [if_neg (by simp),Nat.sub_self];rfl
end
end Gv
namespace Gv
open Go
theorem lts_dup {st ini:Int} {labels M:List aH} {arcs:List cO} (hM:pV M) (hm:∀ s,s∈M<->s∈labels/\s≠bC) (h1:labels.length < 100000000) (h2:arcs.length < 100000000) (h3:M.length < 1000000):
  aFC st ini labels arcs=some ⟨st,ini,bC::M,fS (rO bZ (arcs.map fun a=>(⟨a.from_,pos (bC::M) a.label,a.to_⟩:Edge)))⟩:=by
 unfold aFC
 rw [show ([116,97,117]:aH)=bC from rfl,dC (by simp [jT];omega),aA]
 have e1:aCm ([bC]++labels)=some (rO aBc ([bC]++labels)):=by unfold aCm;rw [if_pos (by simp [jT];omega)]
 rw [e1,aA,aKv _ (by unfold rO;rw [List.length_mergeSort];simp;omega),aA]
 rw [aJR aBc aJS aLR aHJ hM.lab (fun x=>?_)]
 ·rw [uL (step:=fun s:List Edge × Int=>aCR arcs (bC::M) s.1 s.2) arcs (fun a=>(⟨a.from_,pos (bC::M) a.label,a.to_⟩:Edge)) id (fun k out x hk ho hx=>?_) (fun out=>by simp only [aCR,dB];rfl),aA]
  ·unfold aGY
   have e2:nP (id (arcs.map fun a=>(⟨a.from_,pos (bC::M) a.label,a.to_⟩:Edge)))=some (rO bZ (arcs.map fun a=>(⟨a.from_,pos (bC::M) a.label,a.to_⟩:Edge))):=by
    unfold nP;rw [if_pos (by simp [jT];omega)];rfl
   rw [e2,aA,aIj _ (by unfold rO;rw [List.length_mergeSort,List.length_map];omega),aA]
  ·simp only [aCR,bU hk,if_pos,hx,aA,aJP _ _ (show (bC::M).length < 4611686018427387904 by simp;omega),bQ hk (show arcs.length < 4611686018427387904 by omega)]
   rw [dC (by simp [jT];omega),aA]
 ·by_cases e:x=bC
  ·subst e;simp
  ·simp [e,hm x]
def At (F:List (List Int)) (j:Int) (S:List Int):Prop:=0<=j/\F[j.toNat]?=some S
theorem At.pre {F G:List (List Int)} {j:Int} {S:List Int} (h:F <+:G) (ha:At F j S):At G j S:=by
 obtain ⟨r,rfl⟩:=h
 obtain ⟨h1,h2⟩:=ha
 exact ⟨h1,by rw [List.getElem?_append_left (List.getElem?_eq_some_iff.1 h2).1];exact h2⟩
theorem at_ins (F:List (List Int)) (S:List Int):At (aAF id F S) (atK id F S) S:=by
 have hm:=insK_mem (key:=id) F S
 rw [atK_pos]
 obtain ⟨j,e,g⟩:=aCa hm
 rw [List.map_id] at e g
 rw [List.map_id]
 exact ⟨by omega,by rw [e];exact g⟩
structure Ad (i:Int) (l:List (aH × List Int)) (a r:List (List Int) × List cO):Prop where
 pre:a.1 <+:r.1
 nd:a.1.Nodup->r.1.Nodup
 new:∃ new,r.2=a.2++new/\(∀ c∈new,c.from_=i/\∃ x∈l,c.label=x.1/\At r.1 c.to_ x.2)/\∀ x∈l,∃ c∈new,c.from_=i/\c.label=x.1/\At r.1 c.to_ x.2
theorem aJs (i:Int):∀ (l:List (aH × List Int)) (a:List (List Int) × List cO),Ad i l a (cN i l a)
 |[],a=>⟨List.prefix_refl _,id,[],by simp [cN],by simp,by simp⟩
 |x::l,a=>by
  obtain ⟨p,d,new,e,h1,h2⟩:=aJs i l (addT i a x)
  have e0:cN i (x::l) a=cN i l (addT i a x):=rfl
  rw [e0]
  have hp:a.1 <+:(addT i a x).1:=aMd (key:=id) a.1 x.2
  have hx:At (cN i l (addT i a x)).1 (atK id a.1 x.2) x.2:=At.pre p (at_ins a.1 x.2)
  refine ⟨hp.trans p,fun hn=>d ?_,⟨i,x.1,atK id a.1 x.2⟩::new,?_,fun c hc=>?_,fun y hy=>?_⟩
  ·have:=aQX (key:=id) (F:=a.1) (by rw [List.map_id];exact hn) x.2
   rw [List.map_id] at this;exact this
  ·rw [e];show (a.2++[_])++new=_;rw [List.append_assoc];rfl
  ·rcases List.mem_cons.1 hc with rfl|hc
   ·exact ⟨rfl,x,by simp,rfl,hx⟩
   ·obtain ⟨g1,y,g2,g3⟩:=h1 c hc
    exact ⟨g1,y,List.mem_cons_of_mem _ g2,g3⟩
  ·rcases List.mem_cons.1 hy with rfl|hy
   ·exact ⟨⟨i,y.1,atK id a.1 y.2⟩,List.mem_cons_self,rfl,rfl,hx⟩
   ·obtain ⟨c,g1,g2⟩:=h2 y hy
    exact ⟨c,List.mem_cons_of_mem _ g1,g2⟩
section
variable {sh:aH->Option aH} {n:aO}
structure Inv (sh:aH->Option aH) (n:aO) (f:List Int) (i:Nat) (a:List (List Int) × List cO):Prop where
 rng:∀ S∈a.1,Rng n S
 nd:a.1.Nodup
 fst:a.1[0]?=some f
 l1:a.1.length<=40
 l2:a.2.length<=1441200 * i
 snd:∀ c∈a.2,∃ S,At a.1 c.from_ S/\∃ x∈mvs sh n S,c.label=x.1/\At a.1 c.to_ x.2
 cmp:∀ k S,k < i->a.1[k]?=some S->∀ x∈mvs sh n S,∃ c∈a.2,c.from_=(k:Int)/\c.label=x.1/\At a.1 c.to_ x.2
theorem Inv.next (hn:iB n) {f:List Int} {i:Nat} {a:List (List Int) × List cO} (h:Inv sh n f i a) {S:List Int} (hS:a.1[i]?=some S) (hl:(cN i (mvs sh n S) a).1.length<=40):Inv sh n f (i+1) (cN i (mvs sh n S) a):=by
 have hR:=h.rng _ (List.mem_of_getElem? hS)
 obtain ⟨p,d,new,e,h1,h2⟩:=aJs (i:Int) (mvs sh n S) a
 have up:∀ {k:Nat} {T:List Int},k < a.1.length->(cN i (mvs sh n S) a).1[k]?=some T->a.1[k]?=some T:=fun {k T} hk g=>by
  obtain ⟨r,hr⟩:=p
  rw [←hr,List.getElem?_append_left hk] at g;exact g
 have hil:=(List.getElem?_eq_some_iff.1 hS).1
 refine ⟨aKe (P:=Rng n) _ _ _ h.rng (mvs_rng hn hR),d h.nd,?_,hl,?_,fun c hc=>?_,fun k T hk hT x hx=>?_⟩
 ·obtain ⟨r,hr⟩:=p
  rw [←hr,List.getElem?_append_left (by omega)];exact h.fst
 ·have:=aKd (i:Int) (mvs sh n S) a
  have:=mvs_len (sh:=sh) (s:=S) hn
  have:=h.l2
  omega
 ·rw [e] at hc
  rcases List.mem_append.1 hc with hc|hc
  ·obtain ⟨T,g1,x,g2,g3,g4⟩:=h.snd c hc
   exact ⟨T,g1.pre p,x,g2,g3,g4.pre p⟩
  ·obtain ⟨g1,x,g2,g3,g4⟩:=h1 c hc
   exact ⟨S,At.pre p ⟨by omega,by rw [g1,Int.toNat_natCast];exact hS⟩,x,g2,g3,g4⟩
 ·rw [e]
  have hT':=up (by omega) hT
  by_cases hki:k=i
  ·subst hki
   rw [hS] at hT';cases hT'
   obtain ⟨c,g1,g2⟩:=h2 x hx
   exact ⟨c,List.mem_append_right _ g1,g2⟩
  ·obtain ⟨c,g1,g2,g3,g4⟩:=h.cmp k T (by omega) hT' x hx
   exact ⟨c,List.mem_append_left _ g1,g2,g3,g4.pre p⟩
theorem aNB (hn:iB n) {f:List Int}:∀ (m i:Nat) (a:List (List Int) × List cO),i<=a.1.length->41<=m+i->Inv (xU n) n f i a->
  ∃ r,loop (fun x:List (List Int) × List (aH × Int) × List cO × Int=>dY n n x.1 x.2.1 x.2.2.1 x.2.2.2) (a.1,mq 0 (a.1.map kS),a.2,(i:Int))=some r/\
   (r=.inr (⟨0,0,[],[]⟩,[],false)\/∃ b,r=.inl (b.1,mq 0 (b.1.map kS),b.2)/\Inv (xU n) n f b.1.length b)
 |0,i,a,hi,hm,hI=>by have:=hI.l1;omega
 |m+1,i,a,hi,hm,hI=>by
  have hl1:=hI.l1
  have hl2:=hI.l2
  by_cases hlt:i < a.1.length
  ·have hS:=List.getElem?_eq_getElem hlt
   have hR:=hI.rng _ (List.getElem_mem hlt)
   have hw:=bQ hlt (show a.1.length < 4611686018427387904 by omega)
   have hmv:=aQh hn hR i (a:=a) (b:=40) (b':=100000000) ⟨hI.rng,hl1,by omega⟩ (by omega) (by omega)
   have hnx:=hI.next hn hS
   have hpl:=(aJs (i:Int) (mvs (xU n) n a.1[i]) a).pre.length_le
   generalize cN (i:Int) (mvs (xU n) n a.1[i]) a=A at hmv hnx hpl
   have hst:dY n n a.1 (mq 0 (a.1.map kS)) a.2 (i:Int)=if 40 < A.1.length then some (.inr (.inr (⟨0,0,[],[]⟩,[],false))) else some (.inl (A.1,mq 0 (A.1.map kS),A.2,((i+1:Nat):Int))):=by
    unfold dY
    rw [if_pos (bU hlt),cG hlt,aA]
    unfold rD
    rw [hmv,aA,aA,if_neg (by simp)]
    unfold mQ
    by_cases h40:40 < A.1.length
    ·rw [if_pos h40,if_pos (by simp only [decide_eq_true_eq];omega)]
    ·rw [if_neg h40,if_neg (by simp only [decide_eq_true_eq];omega),hw]
   by_cases h40:40 < A.1.length
   ·rw [if_pos h40] at hst
    exact ⟨_,aCc (step:=fun x:List (List Int) × List (aH × Int) × List cO × Int=>dY n n x.1 x.2.1 x.2.2.1 x.2.2.2) (s:=(a.1,mq 0 (a.1.map kS),a.2,(i:Int))) hst,.inl rfl⟩
   ·rw [if_neg h40] at hst
    rw [aEA (step:=fun x:List (List Int) × List (aH × Int) × List cO × Int=>dY n n x.1 x.2.1 x.2.2.1 x.2.2.2) (s:=(a.1,mq 0 (a.1.map kS),a.2,(i:Int))) hst]
    have hnx':=hnx (by omega)
    exact aNB hn m (i+1) A (by omega) (by omega) hnx'
  ·obtain rfl:i=a.1.length:=by omega
   have hst:dY n n a.1 (mq 0 (a.1.map kS)) a.2 (a.1.length:Int)=some (.inr (.inl (a.1,mq 0 (a.1.map kS),a.2))):=by
    unfold dY
    rw [if_neg (by simp)]
   exact ⟨_,aCc (step:=fun x:List (List Int) × List (aH × Int) × List cO × Int=>dY n n x.1 x.2.1 x.2.2.1 x.2.2.2) (s:=(a.1,mq 0 (a.1.map kS),a.2,(a.1.length:Int))) hst,.inr ⟨a,rfl,hI⟩⟩
theorem aMw (hn:iB n) {f:List Int}:∀ (m i:Nat) (a:List (List Int) × List cO),i<=a.1.length->41<=m+i->Inv some n f i a->
  ∃ r,loop (fun x:List (List Int) × List (aH × Int) × List cO × Int=>dD n x.1 x.2.1 x.2.2.1 x.2.2.2) (a.1,mq 0 (a.1.map kS),a.2,(i:Int))=some r/\
   (r=.inr (⟨0,0,[],[]⟩,[],false)\/∃ b,r=.inl (b.1,mq 0 (b.1.map kS),b.2)/\Inv some n f b.1.length b)
 |0,i,a,hi,hm,hI=>by have:=hI.l1;omega
 |m+1,i,a,hi,hm,hI=>by
  have hl1:=hI.l1
  have hl2:=hI.l2
  by_cases hlt:i < a.1.length
  ·have hS:=List.getElem?_eq_getElem hlt
   have hR:=hI.rng _ (List.getElem_mem hlt)
   have hw:=bQ hlt (show a.1.length < 4611686018427387904 by omega)
   have hmv:=aPd hn hR i (a:=a) (b:=40) (b':=100000000) ⟨hI.rng,hl1,by omega⟩ (by omega) (by omega)
   have hnx:=hI.next hn hS
   have hpl:=(aJs (i:Int) (mvs some n a.1[i]) a).pre.length_le
   generalize cN (i:Int) (mvs some n a.1[i]) a=A at hmv hnx hpl
   have hst:dD n a.1 (mq 0 (a.1.map kS)) a.2 (i:Int)=if 40 < A.1.length then some (.inr (.inr (⟨0,0,[],[]⟩,[],false))) else some (.inl (A.1,mq 0 (A.1.map kS),A.2,((i+1:Nat):Int))):=by
    unfold dD
    rw [if_pos (bU hlt),cG hlt,aA]
    unfold oD
    rw [hmv,aA,aA,if_neg (by simp)]
    unfold kX
    by_cases h40:40 < A.1.length
    ·rw [if_pos h40,if_pos (by simp only [decide_eq_true_eq];omega)]
    ·rw [if_neg h40,if_neg (by simp only [decide_eq_true_eq];omega),hw]
   by_cases h40:40 < A.1.length
   ·rw [if_pos h40] at hst
    exact ⟨_,aCc (step:=fun x:List (List Int) × List (aH × Int) × List cO × Int=>dD n x.1 x.2.1 x.2.2.1 x.2.2.2) (s:=(a.1,mq 0 (a.1.map kS),a.2,(i:Int))) hst,.inl rfl⟩
   ·rw [if_neg h40] at hst
    rw [aEA (step:=fun x:List (List Int) × List (aH × Int) × List cO × Int=>dD n x.1 x.2.1 x.2.2.1 x.2.2.2) (s:=(a.1,mq 0 (a.1.map kS),a.2,(i:Int))) hst]
    have hnx':=hnx (by omega)
    exact aMw hn m (i+1) A (by omega) (by omega) hnx'
  ·obtain rfl:i=a.1.length:=by omega
   have hst:dD n a.1 (mq 0 (a.1.map kS)) a.2 (a.1.length:Int)=some (.inr (.inl (a.1,mq 0 (a.1.map kS),a.2))):=by
    unfold dD
    rw [if_neg (by simp)]
   exact ⟨_,aCc (step:=fun x:List (List Int) × List (aH × Int) × List cO × Int=>dD n x.1 x.2.1 x.2.2.1 x.2.2.2) (s:=(a.1,mq 0 (a.1.map kS),a.2,(a.1.length:Int))) hst,.inr ⟨a,rfl,hI⟩⟩
end
end Gv
namespace Gv
open Go
section
variable {sh:aH->Option aH} {n:aO}
structure aIK (sh:aH->Option aH) (n:aO) (f:List Int) (t:bA) (F:List (List Int)):Prop where
 ok:cF t
 lab:∀ s∈t.L,s∈T6
 fits:pU 999999999 t
 st:t.N=(F.length:Int)
 nd:F.Nodup
 rng:∀ S∈F,Rng n S
 ini:At F t.I f
 snd:∀ e∈t.E,∃ S T,At F e.F S/\At F e.To T/\(oS t e,T)∈mvs sh n S
 cmp:∀ k S,At F k S->∀ x∈mvs sh n S,∃ e∈t.E,e.F=k/\oS t e=x.1/\At F e.To x.2
def Shw (sh:aH->Option aH):Prop:=∀ c l,sh c=some l->c∈T6->l∈T6
theorem shw_n (n:aO):Shw (xU n):=fun c l h hc=>by
 unfold xU at h
 split at h
 ·cases h;decide
 ·split at h
  ·split at h
   ·split at h
    ·cases h;decide
    ·cases h;exact hc
   ·cases h
  ·cases h
theorem shw_a:Shw some:=fun c l h hc=>by cases h;exact hc
theorem mvs_lab (hs:Shw sh) (hn:iB n) {s:List Int} {x:aH × List Int} (hx:x∈mvs sh n s):x.1∈T6:=by
 obtain ⟨i,hi,hx⟩:=List.mem_flatMap.1 hx
 rw [List.mem_range'_1] at hi
 obtain ⟨e,he,hx⟩:=List.mem_flatMap.1 hx
 have h6:=(aEB hn (by omega) he).2.2.2.1
 rcases List.mem_append.1 hx with hx|hx
 ·exact hs _ _ (aHO hx).2 h6
 ·obtain ⟨k,_,hx⟩:=List.mem_flatMap.1 hx
  obtain ⟨f,_,hx⟩:=List.mem_flatMap.1 hx
  unfold mv3 at hx
  split at hx
  ·rename_i c hc
   exact hs _ _ (aHO hx).2 (mt_res hn.meet hc).2.1
  ·cases hx
theorem aPe {M:List aH} {labels:List aH} (hm:∀ s,s∈M<->s∈labels/\s≠bC) {l:aH} (h:l∈labels):l∈bC::M:=by
 by_cases e:l=bC
 ·rw [e];exact List.mem_cons_self
 ·exact List.mem_cons_of_mem _ ((hm l).2 ⟨h,e⟩)
theorem aLd {M:List aH} {t:bA} (ht:t.L=bC::M) {l:aH} (hl:l∈bC::M) (x y:Int):oS t ⟨x,pos (bC::M) l,y⟩=l:=by
 obtain ⟨i,e1,g1⟩:=aCa hl
 unfold oS
 show t.L.getD (pos (bC::M) l).toNat []=l
 rw [ht,e1,Int.toNat_natCast,List.getD_eq_getElem?_getD,g1];rfl
theorem aJt {arcs:List cO} (h:arcs.length < 100000000):yB arcs=some (arcs.map (·.label)):=by
 unfold yB
 have:=uL (step:=fun s:List aH × Int=>aCD arcs s.1 s.2) arcs (·.label) id (fun k out x hk ho hx=>by
  simp only [aCD,bU hk,if_pos,hx,aA,bQ hk (show arcs.length < 4611686018427387904 by omega)]
  rw [dC (by simp [jT];omega),aA]) (fun out=>by simp only [aCD,dB];rfl)
 rw [this,aA];rfl
theorem aNC (hs:Shw sh) (hn:iB n) {f:List Int} {b:List (List Int) × List cO} (hI:Inv sh n f b.1.length b):
  ∃ t,yB b.2=some (b.2.map (·.label))/\aFC (b.1.length:Int) 0 (b.2.map (·.label)) b.2=some t/\pC t=some (cl (cF t))/\(cF t->aIK sh n f t b.1):=by
 have h1:=hI.l1
 have h2:=hI.l2
 have hlab:(b.2.map (·.label)).length=b.2.length:=List.length_map ..
 have hl6:∀ l∈b.2.map (·.label),l∈T6:=fun l hl=>by
  obtain ⟨c,hc,rfl⟩:=List.mem_map.1 hl
  obtain ⟨S,_,x,g1,g2,_⟩:=hI.snd c hc
  rw [g2];exact mvs_lab hs hn g1
 have hfl:(T6.filter fun s=>decide (s∈b.2.map (·.label))).length<=9:=List.length_filter_le _ _
 obtain ⟨M,_,hM,hm0,hMl⟩:=aHq (T6.filter fun s=>decide (s∈b.2.map (·.label))) (by omega)
 have hm:∀ s,s∈M<->s∈b.2.map (·.label)/\s≠bC:=fun s=>by
  rw [hm0,List.mem_filter,decide_eq_true_eq]
  exact ⟨fun h=>⟨h.1.2,h.2⟩,fun h=>⟨⟨hl6 s h.1,h.1⟩,h.2⟩⟩
 have hE:=lts_dup (st:=(b.1.length:Int)) (ini:=0) (arcs:=b.2) hM hm (by omega) (by omega) (by omega)
 generalize ht:(⟨(b.1.length:Int),0,bC::M,fS (rO bZ (b.2.map fun a=>(⟨a.from_,pos (bC::M) a.label,a.to_⟩:Edge)))⟩:bA)=t at hE
 have hfit:pU 999999999 t:=by
  subst ht
  refine ⟨by simp only [List.length_cons];omega,fun s hs=>?_,?_⟩
  ·rcases List.mem_cons.1 hs with rfl|hs
   ·decide
   ·have h6:=hl6 s ((hm s).1 hs).1
    have h7:∀ s∈T6,s.length<=100:=by decide
    have h8:=h7 s h6
    omega
  ·have:=aJp (b.2.map fun a=>(⟨a.from_,pos (bC::M) a.label,a.to_⟩:Edge))
   rw [List.length_map] at this
   show (fS _).length<=_
   omega
 have hL:t.L=bC::M:=by subst ht;rfl
 have hed:∀ e,e∈t.E<->∃ c∈b.2,(⟨c.from_,pos (bC::M) c.label,c.to_⟩:Edge)=e:=fun e=>by
  subst ht
  show e∈fS _<->_
  rw [aFS,List.mem_map]
 refine ⟨t,aJt (by omega),hE,aBw t hfit,fun hok=>?_⟩
 ·refine ⟨hok,fun s hs=>?_,hfit,by subst ht;rfl,hI.nd,hI.rng,by subst ht;exact ⟨by show (0:Int)<=0;omega,hI.fst⟩,fun e he=>?_,fun k S hk x hx=>?_⟩
  ·rw [hL] at hs
   rcases List.mem_cons.1 hs with rfl|hs
   ·decide
   ·exact hl6 s ((hm s).1 hs).1
  ·obtain ⟨c,hc,rfl⟩:=(hed e).1 he
   obtain ⟨S,g1,x,g2,g3,g4⟩:=hI.snd c hc
   refine ⟨S,x.2,g1,g4,?_⟩
   rw [aLd hL (aPe hm (List.mem_map_of_mem hc)),g3]
   exact g2
  ·obtain ⟨c,g1,g2,g3,g4⟩:=hI.cmp k.toNat S (List.getElem?_eq_some_iff.1 hk.2).1 hk.2 x hx
   refine ⟨⟨c.from_,pos (bC::M) c.label,c.to_⟩,(hed _).2 ⟨c,g1,rfl⟩,?_,?_,g4⟩
   ·show c.from_=k
    rw [g2];have:=hk.1;omega
   ·rw [aLd hL (aPe hm (List.mem_map_of_mem g1)),g3]
theorem expl_at (hn:iB n) {f:List Int} (hf:Rng n f):∃ t F v,pM f n n=some (t,F,v)/\(v=true->aIK (xU n) n f t F):=by
 have hf0:=aGr hn (F:=[]) (by simp) hf (by simp) []
 have e0:aAF id ([]:List (List Int)) f=[f]:=rfl
 rw [e0] at hf0
 obtain ⟨r,h1,h2⟩:=aNB hn (f:=f) 41 0 ([f],[]) (by simp) (by omega) ⟨fun S hS=>by simp at hS;rw [hS];exact hf,by simp,rfl,by simp,by simp,by simp,fun k S hk=>by omega⟩
 unfold pM
 rw [show dP [] ([]:List (aH × Int)) [] f=_ from hf0,aA]
 simp only
 rw [show loop (fun x:List (List Int) × List (aH × Int) × List cO × Int=>dY n n x.1 x.2.1 x.2.2.1 x.2.2.2) ([f],mq 0 ([f].map kS),[],0)=_ from h1,aA]
 rcases h2 with rfl|⟨b,rfl,hI⟩
 ·exact ⟨_,_,false,rfl,by simp⟩
 ·obtain ⟨t,e1,e2,e3,e4⟩:=aNC (shw_n n) hn hI
  refine ⟨t,b.1,cl (cF t),?_,fun hv=>e4 (aGl.1 hv)⟩
  show mP b.1 (mq 0 (b.1.map kS)) b.2=_
  unfold mP
  rw [e1,aA,e2,aA]
  unfold pQ
  rw [show (⟨t.N,t.I,t.L,t.E⟩:bA)=t from rfl,e3,aA]
theorem expl_atA (hn:iB n) {f:List Int} (hf:Rng n f):∃ t F v,mS f n=some (t,F,v)/\(v=true->aIK some n f t F):=by
 have hf0:=aGr hn (F:=[]) (by simp) hf (by simp) []
 have e0:aAF id ([]:List (List Int)) f=[f]:=rfl
 rw [e0] at hf0
 obtain ⟨r,h1,h2⟩:=aMw hn (f:=f) 41 0 ([f],[]) (by simp) (by omega) ⟨fun S hS=>by simp at hS;rw [hS];exact hf,by simp,rfl,by simp,by simp,by simp,fun k S hk=>by omega⟩
 unfold mS
 rw [show dP [] ([]:List (aH × Int)) [] f=_ from hf0,aA]
 simp only
 rw [show loop (fun x:List (List Int) × List (aH × Int) × List cO × Int=>dD n x.1 x.2.1 x.2.2.1 x.2.2.2) ([f],mq 0 ([f].map kS),[],0)=_ from h1,aA]
 rcases h2 with rfl|⟨b,rfl,hI⟩
 ·exact ⟨_,_,false,rfl,by simp⟩
 ·obtain ⟨t,e1,e2,e3,e4⟩:=aNC (shw_a) hn hI
  refine ⟨t,b.1,cl (cF t),?_,fun hv=>e4 (aGl.1 hv)⟩
  show kW b.1 (mq 0 (b.1.map kS)) b.2=_
  unfold kW
  rw [e1,aA,e2,aA]
  unfold nG
  rw [show (⟨t.N,t.I,t.L,t.E⟩:bA)=t from rfl,e3,aA]
theorem aQi {t:bA} (hv:cF t) {S:List Int} (hS:S.length < 1000000000):vF t S=some ⟨(S.length:Int),pos S t.I,t.L,rO bZ (aDe t S)⟩:=by
 have h300:=hv.2.2.2.1
 have h12:=hv.2.2.1.2.1
 unfold vF
 rw [aGq _ _ (by omega),aA,aHL _ (by unfold jT;omega),aA]
 unfold aAw
 have:=lH (step:=fun s:List Edge × Int=>mJ t S s.1 s.2) t.E (fun k (a:List Edge)=>(a,(k:Int)))
  (fun l a=>a++l.filterMap fun e=>if 0<=pos S e.F/\0<=pos S e.To then some (⟨pos S e.F,e.B,pos S e.To⟩:Edge) else none) (fun k a=>a.length<=k) (fun k out x l hk' hx hI=>?_) (fun out hI=>by simp only [mJ,dB];simp) (a:=[]) (by simp)
 ·have this':loop (fun s:List Edge × Int=>mJ t S s.1 s.2) ([],0)=some (aDe t S):=this
  rw [this',aA]
  unfold aAv nP
  have hl:=aHK t S
  rw [if_pos (by unfold jT;omega),aA]
 ·left
  have hI':out.length<=k:=hI
  have hw:=bQ hk' (show t.E.length < 4611686018427387904 by omega)
  simp only [mJ,bU hk',if_pos,hx,aA,aGq _ S (show S.length < 4611686018427387904 by omega)]
  rw [List.filterMap_cons]
  by_cases h1:0<=pos S x.F
  ·rw [if_pos (decide_eq_true h1)]
   by_cases h2:0<=pos S x.To
   ·rw [if_pos ⟨h1,h2⟩]
    simp only [oB,mI,decide_eq_true h2,if_pos]
    rw [dC (show out.length+1<=jT by unfold jT;omega),aA,hw]
    exact ⟨_,rfl,by simp;omega,by simp⟩
   ·rw [if_neg (fun h=>h2 h.2)]
    simp only [oB,mI,decide_eq_false h2,hw]
    exact ⟨out,by simp,by omega,rfl⟩
  ·rw [if_neg (by simpa using h1),if_neg (fun h=>h1 h.1)]
   simp only [oB,mI,hw]
   exact ⟨out,by simp,by omega,rfl⟩
end
end Gv
namespace Gv
open Option.some renaming inj→zI
open Go
theorem posN_at {O:List Int} (hn:O.Nodup) {i:Nat} {x:Int} (h:O[i]?=some x):pos O x=(i:Int):=by
 obtain ⟨j,e,g⟩:=aCa (List.mem_of_getElem? h)
 obtain ⟨hi,h'⟩:=List.getElem?_eq_some_iff.1 h
 obtain ⟨hj,g'⟩:=List.getElem?_eq_some_iff.1 g
 rw [e,(List.getElem_inj hn).1 (g'.trans h'.symm)]
theorem aJu {m:Nat} (h:m<=1000000):aDj (m:Int)=some ((List.range m).map Int.ofNat):=by
 unfold aDj
 have:=uL (step:=fun s:List Int × Int=>aCr (m:Int) s.1 s.2) (List.range m) Int.ofNat id (fun k out x hk ho hx=>by
  rw [List.length_range] at hk
  have:x=k:=by
   rw [rS,List.getElem?_range hk] at hx;exact (zI hx).symm
  subst this
  simp only [aCr,bU hk,if_pos,bQ hk (show m < 4611686018427387904 by omega)]
  rw [dC (by simp [jT];omega),aA];rfl) (fun out=>by
  rw [List.length_range]
  simp only [aCr,dB];rfl)
 rw [this,aA];rfl
section
variable {sh:aH->Option aH} {n:aO} {f:List Int} {t:bA} {F:List (List Int)}
def idN (m:Nat):List Int:=(List.range m).map Int.ofNat
def sU (F:List (List Int)):List Int:=rO (aLy F) (idN F.length)
def aJv (F:List (List Int)):List (List Int):=(sU F).map fun k=>F.getD k.toNat []
def renL (F:List (List Int)) (t:bA):bA:=⟨((sU F).length:Int),pos (sU F) t.I,t.L,rO bZ (aDe t (sU F))⟩
theorem aPf {m:Nat} {k:Int}:k∈idN m<->0<=k/\k < m:=by
 unfold idN
 rw [List.mem_map]
 constructor
 ·rintro ⟨a,ha,rfl⟩
  rw [List.mem_range] at ha
  exact ⟨Int.natCast_nonneg a,by show (a:Int) < m;omega⟩
 ·rintro ⟨h1,h2⟩
  exact ⟨k.toNat,by rw [List.mem_range];omega,by show ((k.toNat:Nat):Int)=k;omega⟩
theorem aJw (F:List (List Int)):(sU F).Perm (idN F.length):=List.mergeSort_perm _ _
theorem aLe (F:List (List Int)):(sU F).length=F.length:=by rw [(aJw F).length_eq];unfold idN;rw [List.length_map,List.length_range]
theorem aDS {F:List (List Int)} {k:Int}:k∈sU F<->0<=k/\k < F.length:=(aJw F).mem_iff.trans aPf
theorem idN_nodup (m:Nat):(idN m).Nodup:=by
 unfold idN
 exact List.Pairwise.map Int.ofNat (fun a b h e=>h (Int.ofNat.inj e)) List.nodup_range
theorem ord_nodup (F:List (List Int)):(sU F).Nodup:=(aJw F).nodup_iff.2 (idN_nodup _)
theorem idN_rows (F:List (List Int)):(idN F.length).map (fun k=>F.getD k.toNat [])=F:=by
 apply List.ext_getElem?
 intro i
 unfold idN
 rw [List.map_map,List.getElem?_map]
 by_cases h:i < F.length
 ·rw [List.getElem?_range h]
  show some (F.getD i [])=_
  rw [List.getD_eq_getElem?_getD,List.getElem?_eq_getElem h];rfl
 ·rw [List.getElem?_eq_none (by rw [List.length_range];omega),List.getElem?_eq_none (by omega)];rfl
theorem aKf (F:List (List Int)):(aJv F).Perm F:=by
 have:=(aJw F).map (fun k=>F.getD k.toNat [])
 rw [idN_rows] at this;exact this
theorem aLf {k:Int} {S:List Int} (h:At F k S):At (aJv F) (pos (sU F) k) S:=by
 obtain ⟨h1,h2⟩:=h
 have hlt:=(List.getElem?_eq_some_iff.1 h2).1
 obtain ⟨j,e,g⟩:=aCa (aDS (F:=F) (k:=k) |>.2 ⟨h1,by omega⟩)
 refine ⟨by omega,?_⟩
 rw [e,Int.toNat_natCast]
 unfold aJv
 rw [List.getElem?_map,g]
 show some (F.getD k.toNat [])=some S
 rw [List.getD_eq_getElem?_getD,h2];rfl
theorem rows_at {j:Int} {S:List Int} (h:At (aJv F) j S):∃ k,At F k S/\pos (sU F) k=j:=by
 obtain ⟨h1,h2⟩:=h
 unfold aJv at h2
 rw [List.getElem?_map] at h2
 cases hk:(sU F)[j.toNat]? with
 |none=>rw [hk] at h2;cases h2
 |some k=>
  rw [hk] at h2
  have hm:=aDS.1 (List.mem_of_getElem? hk)
  refine ⟨k,⟨hm.1,?_⟩,by rw [posN_at (ord_nodup F) hk];omega⟩
  have h3:F.getD k.toNat []=S:=zI h2
  rw [List.getD_eq_getElem?_getD,List.getElem?_eq_getElem (by omega)] at h3
  rw [List.getElem?_eq_getElem (by omega)]
  exact congrArg some h3
theorem aDT {k:Int} (h:0<=k/\k < F.length):0<=pos (sU F) k/\pos (sU F) k < F.length:=by
 have:=aJn (aDS.2 h)
 rw [aLe] at this;exact this
theorem aPg (h:aIK sh n f t F) {e:Edge}:e∈(renL F t).E<->∃ d∈t.E,(⟨pos (sU F) d.F,d.B,pos (sU F) d.To⟩:Edge)=e:=by
 show e∈rO bZ (aDe t (sU F))<->_
 unfold rO aDe
 rw [List.mem_mergeSort,List.mem_filterMap]
 have hp:∀ d∈t.E,0<=pos (sU F) d.F/\0<=pos (sU F) d.To:=fun d hd=>by
  obtain ⟨S,T,⟨a1,a2⟩,⟨b1,b2⟩,_⟩:=h.snd d hd
  have:=(List.getElem?_eq_some_iff.1 a2).1
  have:=(List.getElem?_eq_some_iff.1 b2).1
  exact ⟨(aDT ⟨a1,by omega⟩).1,(aDT ⟨b1,by omega⟩).1⟩
 constructor
 ·rintro ⟨d,hd,he⟩
  rw [if_pos (hp d hd)] at he
  exact ⟨d,hd,zI he⟩
 ·rintro ⟨d,hd,he⟩
  exact ⟨d,hd,by rw [if_pos (hp d hd),he]⟩
theorem aQj {t:bA} (hv:cF t):t.E.Nodup:=(aFN hv).imp fun {a b} h e=>by subst e;rw [vT] at h;cases h
theorem ren_ok (h:aIK sh n f t F):aIK sh n f (renL F t) (aJv F):=by
 have hok:=h.ok
 have hst:=h.st
 have hF:=aLe F
 have hin:∀ d∈t.E,(0<=d.F/\d.F < F.length)/\(0<=d.To/\d.To < F.length):=fun d hd=>by
  obtain ⟨S,T,⟨a1,a2⟩,⟨b1,b2⟩,_⟩:=h.snd d hd
  have:=(List.getElem?_eq_some_iff.1 a2).1
  have:=(List.getElem?_eq_some_iff.1 b2).1
  exact ⟨⟨a1,by omega⟩,b1,by omega⟩
 have hkn:(aDe t (sU F)).Nodup:=by
  unfold aDe
  refine List.Pairwise.filterMap _ (R:=fun a b=>a∈t.E/\b∈t.E/\a≠b) (fun a b hab x hx y hy hxy=>?_) ?_
  ·obtain ⟨ha,hb,hne⟩:=hab
   obtain ⟨a1,a2⟩:=hin a ha
   obtain ⟨b1,b2⟩:=hin b hb
   have pa:=aDT a1;have pa2:=aDT a2;have pb:=aDT b1;have pb2:=aDT b2
   rw [if_pos ⟨pa.1,pa2.1⟩] at hx
   rw [if_pos ⟨pb.1,pb2.1⟩] at hy
   have e:=(zI hx).trans (hxy.trans (zI hy).symm)
   simp only [Edge.mk.injEq] at e
   exact hne (aOI (aMi (aDS.2 a1) (aDS.2 b1) e.1) e.2.1 (aMi (aDS.2 a2) (aDS.2 b2) e.2.2))
  ·have hn:=aQj hok
   exact List.Pairwise.imp_of_mem (fun ha hb hab=>⟨ha,hb,hab⟩) hn
 have hSE:SE (renL F t).E:=aGp bZ vT yT aDd hkn
 have hlen:(renL F t).E.length<=t.E.length:=by
  show (rO bZ _).length<=_
  unfold rO
  rw [List.length_mergeSort];exact aHK t _
 have h1:=hok.1
 have hi:=hok.2.1
 have hpi:=aDT (F:=F) (k:=t.I) ⟨by omega,by omega⟩
 have h300:=hok.2.2.2.1
 refine ⟨⟨?_,?_,hok.2.2.1,aFR (by omega) hSE fun e he=>?_⟩,h.lab,⟨h.fits.1,h.fits.2.1,by have:=h.fits.2.2;omega⟩,?_,?_,fun S hS=>h.rng S ((aKf F).mem_iff.1 hS),aLf h.ini,fun e he=>?_,fun k S hk x hx=>?_⟩
 ·show 1<=((sU F).length:Int)/\((sU F).length:Int)<=40
  omega
 ·show 0<=pos (sU F) t.I/\pos (sU F) t.I<=((sU F).length:Int) - 1
  omega
 ·obtain ⟨d,hd,rfl⟩:=(aPg h).1 he
  obtain ⟨d1,d2⟩:=hin d hd
  have p1:=aDT d1
  have p2:=aDT d2
  obtain ⟨_,_,q⟩:=rN hok hd
  exact ⟨⟨p1.1,by show pos (sU F) d.F<=((sU F).length:Int) - 1;omega⟩,⟨p2.1,by show pos (sU F) d.To<=((sU F).length:Int) - 1;omega⟩,q⟩
 ·show ((sU F).length:Int)=((aJv F).length:Int)
  rw [(aKf F).length_eq,hF]
 ·exact (aKf F).nodup_iff.2 h.nd
 ·obtain ⟨d,hd,rfl⟩:=(aPg h).1 he
  obtain ⟨S,T,g1,g2,g3⟩:=h.snd d hd
  exact ⟨S,T,aLf g1,aLf g2,g3⟩
 ·obtain ⟨k0,a1,a2⟩:=rows_at hk
  obtain ⟨d,hd,d1,d2,d3⟩:=h.cmp k0 S a1 x hx
  refine ⟨⟨pos (sU F) d.F,d.B,pos (sU F) d.To⟩,(aPg h).2 ⟨d,hd,rfl⟩,?_,d2,aLf d3⟩
  show pos (sU F) d.F=k
  rw [d1,a2]
theorem firsts_eq (hn:iB n):loop (fun s:List Int × Int=>nI n s.1 s.2) ([],0)=some (n.Parts.map (·.I)):=by
 have:=hn.len
 have:=uL (step:=fun s:List Int × Int=>nI n s.1 s.2) n.Parts (·.I) id (fun k out x hk ho hx=>by
  simp only [nI,bU hk,if_pos,hx,aA,bQ hk (show n.Parts.length < 4611686018427387904 by omega)]
  rw [dC (by simp [jT];omega),aA]) (fun out=>by simp only [nI,dB];rfl)
 exact this
theorem aND (hn:iB n):Rng n (n.Parts.map (·.I)):=by
 refine ⟨List.length_map ..,fun i hi=>?_⟩
 have h:=(hn.at hi).ok.2.1
 rw [List.getD_eq_getElem?_getD,List.getElem?_map,(sT hi).2]
 show jS (cS n i) (cS n i).I
 unfold jS;omega
theorem aQk (hn:iB n):∃ t F v,qJ n n=some (t,F,v)/\(v=true->aIK (xU n) n (n.Parts.map (·.I)) t F):=by
 obtain ⟨t,F,v,e1,e2⟩:=expl_at hn (aND hn)
 unfold qJ
 rw [firsts_eq hn,aA]
 unfold rF
 rw [e1,aA]
 cases v with
 |false=>exact ⟨⟨0,0,[],[]⟩,[],false,by simp only [Bool.not_false,if_true],by simp⟩
 |true=>
  have h:=e2 rfl
  have hst:=h.st
  have h1:=h.ok.1
  rw [if_neg (by simp),show t.N=((F.length:Nat):Int) from hst,aJu (by omega),aA]
  have hs:wM (idN F.length) F=some (sU F):=by
   unfold wM
   rw [if_pos ⟨by unfold idN jT;rw [List.length_map,List.length_range];omega,by omega,h.nd,fun r hr=>by have:=(h.rng r hr).1;have:=hn.len;unfold jT;omega,fun x hx=>aPf.1 hx⟩];rfl
  rw [show wM ((List.range F.length).map Int.ofNat) F=some (sU F) from hs,aA]
  have hl:=aLe F
  have:=uL (step:=fun s:List (List Int) × Int=>lE (t,F,true) (sU F) s.1 s.2) (sU F) (fun k=>F.getD k.toNat []) id (fun k out x hk ho hx=>by
   have hm:=aDS.1 (uN hx)
   have hxe:x=((x.toNat:Nat):Int):=by omega
   have hix:ix F x=some (F.getD x.toNat []):=by
    have:=cG (xs:=F) (k:=x.toNat) (by omega)
    rw [←hxe] at this
    rw [this,List.getD_eq_getElem?_getD,List.getElem?_eq_getElem (by omega)];rfl
   simp only [lE,bU hk,if_pos,hx,aA,hix,bQ hk (show (sU F).length < 4611686018427387904 by omega)]
   rw [dC (by simp [jT];omega),aA]) (fun out=>by simp only [lE,dB];rfl)
  rw [show loop (fun s:List (List Int) × Int=>lE (t,F,true) (sU F) s.1 s.2) ([],0)=_ from this,aA]
  unfold rE
  rw [aQi h.ok (by omega),aA]
  exact ⟨renL F t,aJv F,true,rfl,fun _=>ren_ok h⟩
theorem aRn (hn:iB n):loop (fun s:List Int × Int=>lM n s.1 s.2) ([],0)=some (n.Parts.map (·.I)):=by
 have:=hn.len
 have:=uL (step:=fun s:List Int × Int=>lM n s.1 s.2) n.Parts (·.I) id (fun k out x hk ho hx=>by
  simp only [lM,bU hk,if_pos,hx,aA,bQ hk (show n.Parts.length < 4611686018427387904 by omega)]
  rw [dC (by simp [jT];omega),aA]) (fun out=>by simp only [lM,dB];rfl)
 exact this
theorem aPh (hn:iB n):∃ t F v,nM n=some (t,F,v)/\(v=true->aIK some n (n.Parts.map (·.I)) t F):=by
 obtain ⟨t,F,v,e1,e2⟩:=expl_atA hn (aND hn)
 unfold nM
 rw [aRn hn,aA]
 unfold oF
 rw [e1,aA]
 cases v with
 |false=>exact ⟨⟨0,0,[],[]⟩,[],false,by simp only [Bool.not_false,if_true],by simp⟩
 |true=>
  have h:=e2 rfl
  have hst:=h.st
  have h1:=h.ok.1
  rw [if_neg (by simp),show t.N=((F.length:Nat):Int) from hst,aJu (by omega),aA]
  have hs:wM (idN F.length) F=some (sU F):=by
   unfold wM
   rw [if_pos ⟨by unfold idN jT;rw [List.length_map,List.length_range];omega,by omega,h.nd,fun r hr=>by have:=(h.rng r hr).1;have:=hn.len;unfold jT;omega,fun x hx=>aPf.1 hx⟩];rfl
  rw [show wM ((List.range F.length).map Int.ofNat) F=some (sU F) from hs,aA]
  have hl:=aLe F
  have:=uL (step:=fun s:List (List Int) × Int=>jM (t,F,true) (sU F) s.1 s.2) (sU F) (fun k=>F.getD k.toNat []) id (fun k out x hk ho hx=>by
   have hm:=aDS.1 (uN hx)
   have hxe:x=((x.toNat:Nat):Int):=by omega
   have hix:ix F x=some (F.getD x.toNat []):=by
    have:=cG (xs:=F) (k:=x.toNat) (by omega)
    rw [←hxe] at this
    rw [this,List.getD_eq_getElem?_getD,List.getElem?_eq_getElem (by omega)];rfl
   simp only [jM,bU hk,if_pos,hx,aA,hix,bQ hk (show (sU F).length < 4611686018427387904 by omega)]
   rw [dC (by simp [jT];omega),aA]) (fun out=>by simp only [jM,dB];rfl)
  rw [show loop (fun s:List (List Int) × Int=>jM (t,F,true) (sU F) s.1 s.2) ([],0)=_ from this,aA]
  unfold oE
  rw [aQi h.ok (by omega),aA]
  exact ⟨renL F t,aJv F,true,rfl,fun _=>ren_ok h⟩
end
end Gv
namespace Gv
open Go
section
variable {n:Nat} {A B:Nat->Int->aH->Int->Prop} {sh:aH->Option aH} {mte:aH->aH->Option aH} {R:Nat->Int->Int->Prop} {PA PB:List Int->Prop}
def NRP (n:Nat) (R:Nat->Int->Int->Prop) (PA PB:List Int->Prop) (s t:List Int):Prop:=NR n R s t/\PA s/\PB t
theorem tp_P {S T:Type} {B:T->aH->T->Prop} {ok:T->Prop} {PB:T->Prop} (c:∀ s l s',PB s->B s l s'->PB s') {x y:T} (hx:PB x) (h:Tp bC B ok x y):Tp bC B (fun z=>ok z/\PB z) x y/\PB y:=by
 induction h with
 |refl=>exact ⟨.refl,hx⟩
 |step _ hs ho ih=>have:=c _ _ _ ih.2 hs;exact ⟨ih.1.step hs ⟨ho,this⟩,this⟩
theorem tp_imp {T:Type} {B:T->aH->T->Prop} {ok ok':T->Prop} (h:∀ z,ok z->ok' z) {x y:T} (hp:Tp bC B ok x y):Tp bC B ok' x y:=by
 induction hp with
 |refl=>exact .refl
 |step _ hs ho ih=>exact ih.step hs (h _ ho)
theorem aMx (h0:sh bC=some bC) (hm1:∀ b,mte bC b=none) (hm2:∀ b,mte b bC=none) (hF:∀ i,i < n->Fwd bC (A i) (B i) (R i))
  (cA:∀ s l s',PA s->Mv n A sh mte s l s'->PA s') (cB:∀ s l s',PB s->Mv n B sh mte s l s'->PB s'):
  ∀ s t,NRP n R PA PB s t->∀ l s',Mv n A sh mte s l s'->(l=bC/\(∃ i,i < n/\∃ x,A i (s.getD i 0) bC x/\s'=s.set i x)/\NRP n R PA PB s' t)\/∃ t1 t',Tp bC (Mv n B sh mte) (NRP n R PA PB s) t t1/\Mv n B sh mte t1 l t'/\NRP n R PA PB s' t':=by
 intro s t h l s' hs
 have hs':=cA _ _ _ h.2.1 hs
 rcases net_fwdZ h0 hm1 hm2 hF s t h.1 l s' hs with ⟨h1,h2,h3⟩|⟨t1,t',h1,h2,h3⟩
 ·exact .inl ⟨h1,h2,h3,hs',h.2.2⟩
 ·obtain ⟨k1,k2⟩:=tp_P (S:=Unit) cB h.2.2 h1
  exact .inr ⟨t1,t',tp_imp (fun z hz=>⟨hz.1,h.2.1,hz.2⟩) k1,h2,h3,hs',cB _ _ _ k2 h2⟩
theorem aQl (h0:sh bC=some bC) (hm1:∀ b,mte bC b=none) (hm2:∀ b,mte b bC=none) (hF:∀ i,i < n->Fwd bC (A i) (B i) (R i)) (hD:∀ i,i < n->Dvf bC (A i) (B i) (R i))
  (cA:∀ s l s',PA s->Mv n A sh mte s l s'->PA s') (cB:∀ s l s',PB s->Mv n B sh mte s l s'->PB s'):Dvq bC (Mv n A sh mte) (Mv n B sh mte) (NRP n R PA PB):=by
 intro CA CB hC s t h hd
 refine Classical.byContradiction fun hn=>aMt (end_step (Z:=fun s s'=>∃ i,i < n/\∃ x,A i (s.getD i 0) bC x/\s'=s.set i x) ?_ hC ?_ (aMs hn) s h) hd
 ·intro x y hx x' hs
  rcases aMx h0 hm1 hm2 hF cA cB x y hx bC x' hs with ⟨_,h2,h3⟩|h
  ·exact .inl ⟨h2,h3⟩
  ·exact .inr h
 ·intro s t h hac hcs
  have hone:∀ i,i < n->Acc (fun x' x=>A i x bC x'/\R i x (t.getD i 0)/\R i x' (t.getD i 0)) (s.getD i 0):=by
   intro i hi
   refine aMs (ok:=fun x=>R i x (t.getD i 0)) fun hdv=>?_
   obtain ⟨X,hx,hX⟩:=hD i hi _ _ (h.1.2.2 i hi) hdv
   refine aMt hac ⟨fun t'=>∃ z,X z/\PB (t.set i z)/\t'=t.set i z,⟨t.getD i 0,hx,by rw [aMu];exact h.2.2,aMu.symm⟩,?_⟩
   rintro t' ⟨z,hz,hp,rfl⟩
   obtain ⟨ho,z',hz',hX'⟩:=hX z hz
   have hm:Mv n B sh mte (t.set i z) bC (t.set i z'):=by
    have:Mv n B sh mte (t.set i z) bC ((t.set i z).set i z'):=.one hi (by rw [dL (by rw [h.1.2.1];exact hi),if_pos rfl];exact hz') h0
    rwa [List.set_set] at this
   exact ⟨(hC _ _ ⟨h.1.setR hi ho,h.2.1,hp⟩).1 hcs,t.set i z',hm,z',hX',cB _ _ _ hp hm,rfl⟩
  have hl:s.length=n:=h.1.1
  refine acc_sub ?_ (aQe s (fun i x' x=>A i x bC x'/\R i x (t.getD i 0)/\R i x' (t.getD i 0)) (by rw [hl];exact hone))
  rintro s2 s1 ⟨⟨i,hi,x,ha,rfl⟩,h1,h2⟩
  have hi1:i < s1.length:=by rw [h1.1.1];exact hi
  refine ⟨i,hi1,x,⟨ha,h1.1.2.2 i hi,?_⟩,rfl⟩
  have:=h2.1.2.2 i hi
  rwa [dL hi1,if_pos rfl] at this
end
section
theorem At.fun {F:List (List Int)} {k:Int} {S T:List Int} (h:At F k S) (g:At F k T):S=T:=Option.some.inj (h.2.symm.trans g.2)
theorem At.inj {F:List (List Int)} (hn:F.Nodup) {j k:Int} {S:List Int} (h:At F j S) (g:At F k S):j=k:=by
 obtain ⟨h1,h2⟩:=h
 obtain ⟨g1,g2⟩:=g
 obtain ⟨a,a'⟩:=List.getElem?_eq_some_iff.1 h2
 obtain ⟨b,b'⟩:=List.getElem?_eq_some_iff.1 g2
 have:=(List.getElem_inj hn).1 (a'.trans b'.symm)
 omega
theorem At.mem {F:List (List Int)} {k:Int} {S:List Int} (h:At F k S):S∈F:=List.mem_of_getElem? h.2
end
structure Bbd (a b:bA) (R:Int->Int->Prop):Prop where
 fw:Fwd bC (nX a) (nX b) R
 bw:Fwd bC (nX b) (nX a) (fun y x=>R x y)
 df:Dvf bC (nX a) (nX b) R
 db:Dvf bC (nX b) (nX a) (fun y x=>R x y)
section
variable {S T U:Type}
inductive Rch (A:S->aH->S->Prop) (x0:S):S->Prop
 |ini:Rch A x0 x0
 |step {x y:S} {l:aH}:Rch A x0 x->A x l y->Rch A x0 y
def Fst (A:S->aH->S->Prop) (B:T->aH->T->Prop) (R:S->T->Prop):Prop:=∀ x y,R x y->∀ l x',A x l x'->∃ y',B y l y'/\R x' y'
structure Stg (A:S->aH->S->Prop) (a0:S) (B:T->aH->T->Prop) (b0:T) (R:S->T->Prop):Prop where
 ini:R a0 b0
 fw:Fst A B R
 bw:Fst B A (fun y x=>R x y)
structure Sim (d:Prop) (A:S->aH->S->Prop) (a0:S) (B:T->aH->T->Prop) (b0:T) (R:S->T->Prop):Prop where
 ini:R a0 b0
 rch:∀ x y,R x y->Rch A a0 x/\Rch B b0 y
 fw:Fwd bC A B R
 bw:Fwd bC B A (fun y x=>R x y)
 df:d->Dvq bC A B R
 db:d->Dvq bC B A (fun y x=>R x y)
def Al (k:Int) (A:S->aH->S->Prop) (a0:S) (B:T->aH->T->Prop) (b0:T):Prop:=if k=0 then ∃ R,Stg A a0 B b0 R else ∃ R,Sim (k=2) A a0 B b0 R
variable {d:Prop} {A:S->aH->S->Prop} {a0:S} {B:T->aH->T->Prop} {b0:T} {C:U->aH->U->Prop} {c0:U} {R:S->T->Prop} {Q:T->U->Prop}
theorem Stg.symm (h:Stg A a0 B b0 R):Stg B b0 A a0 (fun y x=>R x y):=⟨h.ini,h.bw,h.fw⟩
theorem Sim.symm (h:Sim d A a0 B b0 R):Sim d B b0 A a0 (fun y x=>R x y):=⟨h.ini,fun x y g=>(h.rch y x g).symm,h.bw,h.fw,h.db,h.df⟩
theorem fst_fwd (h:Fst A B R):Fwd bC A B R:=fun x y g l x' hs=>by
 obtain ⟨y',h1,h2⟩:=h x y g l x' hs
 exact .inr ⟨y,y',.refl,h1,h2⟩
theorem fst_dvq (h:Fst A B R):Dvq bC A B R:=by
 rintro CA CB hC x y g ⟨X,h0,hX⟩
 refine ⟨fun y=>∃ x,X x/\R x y,⟨x,h0,g⟩,?_⟩
 rintro y ⟨x,hx,g⟩
 obtain ⟨ho,x',hs,hx'⟩:=hX x hx
 obtain ⟨y',h1,h2⟩:=h x y g _ _ hs
 exact ⟨(hC _ _ g).1 ho,y',h1,x',hx',h2⟩
theorem Stg.sim (d:Prop) (h:Stg A a0 B b0 R):∃ R,Sim d A a0 B b0 R:=by
 have hf:Fst A B (fun x y=>R x y/\Rch A a0 x/\Rch B b0 y):=fun x y g l x' hs=>by
  obtain ⟨y',h1,h2⟩:=h.fw x y g.1 l x' hs
  exact ⟨y',h1,h2,g.2.1.step hs,g.2.2.step h1⟩
 have hb:Fst B A (fun y x=>R x y/\Rch A a0 x/\Rch B b0 y):=fun y x g l y' hs=>by
  obtain ⟨x',h1,h2⟩:=h.bw y x g.1 l y' hs
  exact ⟨x',h1,h2,g.2.1.step h1,g.2.2.step hs⟩
 exact ⟨_,⟨⟨h.ini,.ini,.ini⟩,fun x y g=>g.2,fst_fwd hf,fst_fwd hb,fun _=>fst_dvq hf,fun _=>fst_dvq hb⟩⟩
theorem Stg.trans (h:Stg A a0 B b0 R) (g:Stg B b0 C c0 Q):Stg A a0 C c0 (fun x z=>∃ y,R x y/\Q y z):=by
 refine ⟨⟨b0,h.ini,g.ini⟩,?_,?_⟩
 ·rintro x z ⟨y,h1,h2⟩ l x' hs
  obtain ⟨y',h3,h4⟩:=h.fw x y h1 l x' hs
  obtain ⟨z',h5,h6⟩:=g.fw y z h2 l y' h3
  exact ⟨z',h5,y',h4,h6⟩
 ·rintro z x ⟨y,h1,h2⟩ l z' hs
  obtain ⟨y',h3,h4⟩:=g.bw z y h2 l z' hs
  obtain ⟨x',h5,h6⟩:=h.bw y x h1 l y' h3
  exact ⟨x',h5,y',h6,h4⟩
theorem Sim.tot (h:Sim d A a0 B b0 R) {x:S} (hx:Rch A a0 x):∃ y,R x y:=by
 induction hx with
 |ini=>exact ⟨b0,h.ini⟩
 |step _ hs ih=>
  obtain ⟨y,hy⟩:=ih
  rcases h.fw _ y hy _ _ hs with ⟨_,g⟩|⟨_,y',_,_,g⟩
  ·exact ⟨y,g⟩
  ·exact ⟨y',g⟩
theorem aNE (h:Fwd bC A B R) (g:Fwd bC B C Q):Fwd bC A C (fun x z=>∃ y,R x y/\Q y z):=by
 rintro x z ⟨y,h1,h2⟩ l x' hs
 have mono:∀ {y:T} {z w:U},R x y->Tp bC C (Q y) z w->Tp bC C (fun z=>∃ y,R x y/\Q y z) z w:=fun {y z w} hy hp=>by
  induction hp with
  |refl=>exact .refl
  |step _ hs ho ih=>exact ih.step hs ⟨_,hy,ho⟩
 have key:∀ {y1:T},Tp bC B (R x) y y1->R x y1/\∃ z1,Tp bC C (fun z=>∃ y,R x y/\Q y z) z z1/\Q y1 z1:=fun {y1} hp=>by
  induction hp with
  |refl=>exact ⟨h1,z,.refl,h2⟩
  |step _ hs ho ih=>
   obtain ⟨i1,z1,i2,i3⟩:=ih
   rcases g _ _ i3 _ _ hs with ⟨_,q⟩|⟨w,w',q1,q2,q3⟩
   ·exact ⟨ho,z1,i2,q⟩
   ·exact ⟨ho,w',(i2.trans (mono i1 q1)).step q2 ⟨_,ho,q3⟩,q3⟩
 rcases h x y h1 l x' hs with ⟨rfl,q⟩|⟨y1,y',q1,q2,q3⟩
 ·exact .inl ⟨rfl,y,q,h2⟩
 ·obtain ⟨i1,z1,i2,i3⟩:=key q1
  rcases g _ _ i3 _ _ q2 with ⟨rfl,r⟩|⟨w,w',r1,r2,r3⟩
  ·cases i2 with
   |refl=>exact .inl ⟨rfl,y',q3,r⟩
   |step j1 j2 j3=>exact .inr ⟨_,z1,j1,j2,y',q3,r⟩
  ·exact .inr ⟨w,w',i2.trans (mono i1 r1),r2,y',q3,r3⟩
theorem aNF (h:Sim d A a0 B b0 R) (g:Sim d B b0 C c0 Q) (h1:Dvq bC A B R) (g1:Dvq bC B C Q):Dvq bC A C (fun x z=>∃ y,R x y/\Q y z):=by
 rintro CA CC hC x z ⟨y,h2,g2⟩ hd
 have e1:∀ x y,R x y->(CA x<->∃ z,Q y z/\CC z):=fun x y q=>by
  constructor
  ·intro hx
   obtain ⟨z,hz⟩:=g.tot (h.rch _ _ q).2
   exact ⟨z,hz,(hC x z ⟨y,q,hz⟩).1 hx⟩
  ·rintro ⟨z,hz,hc⟩
   exact (hC x z ⟨y,q,hz⟩).2 hc
 refine g1 (fun y=>∃ z,Q y z/\CC z) CC (fun y z q=>?_) y z g2 (h1 CA _ e1 x y h2 hd)
 obtain ⟨x,hx⟩:=h.symm.tot (g.rch _ _ q).1
 constructor
 ·rintro ⟨z',q',hc⟩
  exact (hC x z ⟨y,hx,q⟩).1 ((hC x z' ⟨y,hx,q'⟩).2 hc)
 ·exact fun hc=>⟨z,q,hc⟩
theorem Sim.trans (h:Sim d A a0 B b0 R) (g:Sim d B b0 C c0 Q):Sim d A a0 C c0 (fun x z=>∃ y,R x y/\Q y z):=by
 have flip:(fun z x=>∃ y,(fun z y=>Q y z) z y/\(fun y x=>R x y) y x)=fun z x=>∃ y,R x y/\Q y z:=by
  funext z x
  exact propext ⟨fun ⟨y,a,b⟩=>⟨y,b,a⟩,fun ⟨y,a,b⟩=>⟨y,b,a⟩⟩
 refine ⟨⟨b0,h.ini,g.ini⟩,fun x z ⟨y,a,b⟩=>⟨(h.rch _ _ a).1,(g.rch _ _ b).2⟩,aNE h.fw g.fw,?_,fun hd=>aNF h g (h.df hd) (g.df hd),fun hd=>?_⟩
 ·have:=aNE g.bw h.bw
  rw [flip] at this;exact this
 ·have:=aNF g.symm h.symm (g.db hd) (h.db hd)
  rw [flip] at this;exact this
theorem Al.of {k:Int} (h:∃ R,Stg A a0 B b0 R):Al k A a0 B b0:=by
 unfold Al
 split
 ·exact h
 ·exact h.elim fun R h=>h.sim _
theorem Al.symm {k:Int} (h:Al k A a0 B b0):Al k B b0 A a0:=by
 unfold Al at h ⊢
 split at h
 ·rename_i e
  rw [if_pos e]
  exact h.elim fun R h=>⟨_,h.symm⟩
 ·rename_i e
  rw [if_neg e]
  exact h.elim fun R h=>⟨_,h.symm⟩
theorem Al.trans {k:Int} (h:Al k A a0 B b0) (g:Al k B b0 C c0):Al k A a0 C c0:=by
 unfold Al at h g ⊢
 split at h
 ·rename_i e
  rw [if_pos e] at g ⊢
  exact h.elim fun R h=>g.elim fun Q g=>⟨_,h.trans g⟩
 ·rename_i e
  rw [if_neg e] at g ⊢
  exact h.elim fun R h=>g.elim fun Q g=>⟨_,h.trans g⟩
theorem Al.refl {k:Int}:Al k A a0 A a0:=Al.of ⟨fun x y=>x=y,rfl,fun x y e l x' hs=>⟨x',e ▸ hs,rfl⟩,fun x y e l x' hs=>⟨x',e ▸ hs,rfl⟩⟩
theorem Al.sim {k:Int} (h:Al k A a0 B b0):∃ R,Sim (k=2) A a0 B b0 R:=by
 unfold Al at h
 split at h
 ·exact h.elim fun R h=>h.sim _
 ·exact h
end
section
variable {n:Nat} {A B:Nat->Int->aH->Int->Prop} {sh:aH->Option aH} {mte:aH->aH->Option aH} {s0 t0:List Int}
structure Prs (d:Prop) (A B:Int->aH->Int->Prop) (x0 y0:Int) (R:Int->Int->Prop):Prop where
 ini:R x0 y0
 fw:Fwd bC A B R
 bw:Fwd bC B A (fun y x=>R x y)
 df:d->Dvf bC A B R
 db:d->Dvf bC B A (fun y x=>R x y)
theorem net_al {k:Int} (hk:k≠0) (h0:sh bC=some bC) (hm1:∀ b,mte bC b=none) (hm2:∀ b,mte b bC=none) (hl:s0.length=n/\t0.length=n)
  (h:∀ i,i < n->∃ R,Prs (k=2) (A i) (B i) (s0.getD i 0) (t0.getD i 0) R):Al k (Mv n A sh mte) s0 (Mv n B sh mte) t0:=by
 have hR:∀ i,∃ R,i < n->Prs (k=2) (A i) (B i) (s0.getD i 0) (t0.getD i 0) R:=fun i=>by
  by_cases hi:i < n
  ·obtain ⟨R,hR⟩:=h i hi;exact ⟨R,fun _=>hR⟩
  ·exact ⟨fun _ _=>True,fun h=>absurd h hi⟩
 obtain ⟨R,hR⟩:∃ R:Nat->Int->Int->Prop,∀ i,i < n->Prs (k=2) (A i) (B i) (s0.getD i 0) (t0.getD i 0) (R i):=⟨fun i=>Classical.choose (hR i),fun i=>Classical.choose_spec (hR i)⟩
 have cA:∀ s l s',Rch (Mv n A sh mte) s0 s->Mv n A sh mte s l s'->Rch (Mv n A sh mte) s0 s':=fun s l s' h g=>h.step g
 have cB:∀ s l s',Rch (Mv n B sh mte) t0 s->Mv n B sh mte s l s'->Rch (Mv n B sh mte) t0 s':=fun s l s' h g=>h.step g
 have fl:(fun t s=>NRP n R (Rch (Mv n A sh mte) s0) (Rch (Mv n B sh mte) t0) s t)=NRP n (fun i y x=>R i x y) (Rch (Mv n B sh mte) t0) (Rch (Mv n A sh mte) s0):=by
  funext t s
  exact propext ⟨fun ⟨⟨a,b,c⟩,d,e⟩=>⟨⟨b,a,c⟩,e,d⟩,fun ⟨⟨a,b,c⟩,d,e⟩=>⟨⟨b,a,c⟩,e,d⟩⟩
 unfold Al
 rw [if_neg hk]
 refine ⟨NRP n R (Rch (Mv n A sh mte) s0) (Rch (Mv n B sh mte) t0),⟨⟨hl.1,hl.2,fun i hi=>(hR i hi).ini⟩,.ini,.ini⟩,fun x y g=>g.2,?_,?_,fun hd=>?_,fun hd=>?_⟩
 ·intro s t g l s' hs
  rcases aMx h0 hm1 hm2 (fun i hi=>(hR i hi).fw) cA cB s t g l s' hs with ⟨a,_,b⟩|q
  ·exact .inl ⟨a,b⟩
  ·exact .inr q
 ·rw [fl]
  intro t s g l t' hs
  rcases aMx (R:=fun i y x=>R i x y) h0 hm1 hm2 (fun i hi=>(hR i hi).bw) cB cA t s g l t' hs with ⟨a,_,b⟩|q
  ·exact .inl ⟨a,b⟩
  ·exact .inr q
 ·exact aQl h0 hm1 hm2 (fun i hi=>(hR i hi).fw) (fun i hi=>(hR i hi).df hd) cA cB
 ·rw [fl]
  exact aQl (R:=fun i y x=>R i x y) h0 hm1 hm2 (fun i hi=>(hR i hi).bw) (fun i hi=>(hR i hi).db hd) cB cA
end
section
variable {u:bA} {q:List Int} {R:Int->Int->Prop}
theorem bv_pres (h:aAG u) {dv:Bool} (hi:∀ x y,R x y->jS u x/\jS u y) (hsy:∀ x y,R x y->R y x) (hF:Fwd bC (nX u) (nX u) R) (hD:dv=true->Dvq bC (nX u) (nX u) R):Pres u (brF u dv) R:=by
 intro q hq hsub x y hx hy hxy
 have hs:∀ x y,R x y->kY q x y:=fun x y g=>hsub x y (hi x y g).1 (hi x y g).2 g
 have dv':dv=true->∀ {x y:Int},R x y->Dv u q x->Dv u q y:=fun e {x y} g hd=>by
  rw [aOP h (hi x y g).1] at hd
  rw [aOP h (hi x y g).2]
  refine hD e _ _ (fun v w k=>?_) x y g hd
  exact ⟨fun m=>⟨(hi v w k).2,(hs x y g).symm.trans (m.2.trans (hs v w k))⟩,fun m=>⟨(hi v w k).1,(hs x y g).trans (m.2.trans (hs v w k).symm)⟩⟩
 exact (aQd h hq hx hy).2 ⟨hs x y hxy,fun e=>⟨dv' e hxy,dv' e (hsy x y hxy)⟩,breq_of h hF hs hxy,breq_of h hF hs (hsy x y hxy)⟩
theorem st_pres (h:aAG u) (hi:∀ x y,R x y->jS u x/\jS u y) (hsy:∀ x y,R x y->R y x) (hF:Fst (nX u) (nX u) R):Pres u (stF u) R:=by
 intro q hq hsub x y hx hy hxy
 have hs:∀ x y,R x y->kY q x y:=fun x y g=>hsub x y (hi x y g).1 (hi x y g).2 g
 have st:∀ {x y:Int},R x y->StEq u q x y:=fun {x y} g e he hex=>by
  obtain ⟨y',⟨f,hf,f1,f2,f3⟩,hr⟩:=hF x y g (oS u e) e.To ⟨e,he,hex,rfl,rfl⟩
  exact ⟨f,hf,f1,h.txt_inj hf he f2,by rw [f3];exact hs _ _ hr⟩
 exact (stF_same h.big hq hx hy).2 ⟨hs x y hxy,st hxy,st (hsy x y hxy)⟩
end
section
variable {a b:bA} {M:List aH} {Eo:List Edge} {R:Int->Int->Prop}
theorem ru_fwd' (ha:cF a) (hb:cF b) (h:Uni a b M Eo) (inn:∀ x y,R x y->jS a x/\jS b y) (fw:Fwd bC (nX a) (nX b) R) (bw:Fwd bC (nX b) (nX a) (fun y x=>R x y)):Fwd bC (nX (aAZ a b M Eo)) (nX (aAZ a b M Eo)) (RU a R):=by
 have eA:=aMo ha hb h
 have eB:=aMp ha hb h
 intro x y g s x' hs
 rcases g with ⟨p,q,g,rfl,rfl⟩|⟨p,q,g,rfl,rfl⟩
 ·obtain ⟨p',rfl,hp'⟩:=aHs eA (inn _ _ g).1 hs
  rcases fw p q g s p' hp' with ⟨h1,h2⟩|⟨q1,q',h1,h2,h3⟩
  ·exact .inl ⟨h1,.inl ⟨p',q,h2,rfl,rfl⟩⟩
  ·exact .inr ⟨q1+a.N,q'+a.N,emb_tp eB (fun z hz=>.inl ⟨p,z,hz,rfl,rfl⟩) h1,aJZ eB h2,.inl ⟨p',q',h3,rfl,rfl⟩⟩
 ·obtain ⟨q',rfl,hq'⟩:=aHs eB (inn _ _ g).2 hs
  rcases bw q p g s q' hq' with ⟨h1,h2⟩|⟨p1,p',h1,h2,h3⟩
  ·exact .inl ⟨h1,.inr ⟨p,q',h2,rfl,rfl⟩⟩
  ·exact .inr ⟨p1+0,p'+0,emb_tp eA (fun z hz=>.inr ⟨z,q,hz,rfl,rfl⟩) h1,aJZ eA h2,.inr ⟨p',q',h3,rfl,rfl⟩⟩
theorem ru_fst (ha:cF a) (hb:cF b) (h:Uni a b M Eo) (inn:∀ x y,R x y->jS a x/\jS b y) (fw:Fst (nX a) (nX b) R) (bw:Fst (nX b) (nX a) (fun y x=>R x y)):Fst (nX (aAZ a b M Eo)) (nX (aAZ a b M Eo)) (RU a R):=by
 have eA:=aMo ha hb h
 have eB:=aMp ha hb h
 intro x y g s x' hs
 rcases g with ⟨p,q,g,rfl,rfl⟩|⟨p,q,g,rfl,rfl⟩
 ·obtain ⟨p',rfl,hp'⟩:=aHs eA (inn _ _ g).1 hs
  obtain ⟨q',h1,h2⟩:=fw p q g s p' hp'
  exact ⟨_,aJZ eB h1,.inl ⟨p',q',h2,rfl,rfl⟩⟩
 ·obtain ⟨q',rfl,hq'⟩:=aHs eB (inn _ _ g).2 hs
  obtain ⟨p',h1,h2⟩:=bw q p g s q' hq'
  exact ⟨_,aJZ eA h1,.inr ⟨p',q',h2,rfl,rfl⟩⟩
theorem ru_dvq' (ha:cF a) (hb:cF b) (h:Uni a b M Eo) (inn:∀ x y,R x y->jS a x/\jS b y) (df:Dvq bC (nX a) (nX b) R) (db:Dvq bC (nX b) (nX a) (fun y x=>R x y)):Dvq bC (nX (aAZ a b M Eo)) (nX (aAZ a b M Eo)) (RU a R):=by
 have eA:=aMo ha hb h
 have eB:=aMp ha hb h
 intro CA CB hC x y g hd
 rcases g with ⟨p,q,g,rfl,rfl⟩|⟨p,q,g,rfl,rfl⟩
 ·exact emb_div eB (df (fun z=>CA (z+0)) (fun z=>CB (z+a.N)) (fun v w k=>hC _ _ (.inl ⟨v,w,k,rfl,rfl⟩)) p q g (emb_vid ha eA (inn _ _ g).1 hd))
 ·exact emb_div eA (db (fun z=>CA (z+a.N)) (fun z=>CB (z+0)) (fun v w k=>hC _ _ (.inr ⟨w,v,k,rfl,rfl⟩)) q p g (emb_vid hb eB (inn _ _ g).2 hd))
theorem ru_in (ha:cF a) (hb:cF b) (inn:∀ x y,R x y->jS a x/\jS b y):∀ x y,RU a R x y->jS (aAZ a b M Eo) x/\jS (aAZ a b M Eo) y:=by
 rintro x y (⟨p,q,g,rfl,rfl⟩|⟨p,q,g,rfl,rfl⟩)
 ·exact ⟨uni_A ha hb _ (inn _ _ g).1,uni_B ha hb _ (inn _ _ g).2⟩
 ·exact ⟨uni_B ha hb _ (inn _ _ g).2,uni_A ha hb _ (inn _ _ g).1⟩
theorem aPi (ha:cF a) {x:Int} (h:Rch (nX a) a.I x):jS a x:=by
 induction h with
 |ini=>have:=ha.2.1;unfold jS;omega
 |step _ hs _=>exact (aJY ha hs).2
theorem aPj (ha:cF a) (hb:cF b) (fa:pU 999999999 a) (fb:pU 999999999 b) {k:Int} (h:Al k (nX a) a.I (nX b) b.I):uF a b (k == 2)=some (true,0):=by
 obtain ⟨R,hR⟩:=h.sim
 have inn:∀ x y,R x y->jS a x/\jS b y:=fun x y g=>⟨aPi ha (hR.rch x y g).1,aPi hb (hR.rch x y g).2⟩
 obtain ⟨M,Eo,hu⟩:=uni_ex ha hb
 obtain ⟨p,e,hp⟩:=aRk ha hb fa fb hu (k == 2)
 have hi:=ru_in (M:=M) (Eo:=Eo) ha hb inn
 have hlow:=hp.low (RU a R) (bv_pres (aJr ha hb hu) hi (fun x y g=>g.elim .inr .inl) (ru_fwd' ha hb hu inn hR.fw hR.bw) fun hk=>ru_dvq' ha hb hu inn (hR.df (by simpa using hk)) (hR.db (by simpa using hk)))
 have hr:RU a R (a.I+0) (b.I+a.N):=.inl ⟨_,_,hR.ini,rfl,rfl⟩
 have:tog a b p=true:=tog_iff.2 (hlow _ _ (hi _ _ hr).1 (hi _ _ hr).2 hr)
 rw [e,this]
theorem aRp (ha:cF a) (hb:cF b) (fa:pU 999999999 a) (fb:pU 999999999 b) (h:Uni a b M Eo):∃ p,yE a b=some (tog a b p,0)/\Crs (aAZ a b M Eo) (stF (aAZ a b M Eo)) p:=by
 obtain ⟨p,h1,h2⟩:=aRf (aJr ha hb h).big
 refine ⟨p,?_,h2⟩
 unfold yE aCF
 rw [aBw a fa,aHT ha,aA,if_neg (by simp),aBw b fb,aHT hb,aA]
 unfold uG aHG
 rw [if_neg (by simp),aMj ha hb h,aA,show zX ⟨(aAZ a b M Eo).N,(aAZ a b M Eo).I,(aAZ a b M Eo).L,(aAZ a b M Eo).E⟩=_ from h1,aA,aA,tog_eq ha hb h2.part,aA,aA]
theorem aPk (ha:cF a) (hb:cF b) (fa:pU 999999999 a) (fb:pU 999999999 b) (h:Al 0 (nX a) a.I (nX b) b.I):yE a b=some (true,0):=by
 unfold Al at h
 rw [if_pos rfl] at h
 obtain ⟨R0,h0⟩:=h
 obtain ⟨R,hini,inn,hf,hb'⟩:∃ R:Int->Int->Prop,R a.I b.I/\(∀ x y,R x y->jS a x/\jS b y)/\Fst (nX a) (nX b) R/\Fst (nX b) (nX a) (fun y x=>R x y):=by
  refine ⟨fun x y=>R0 x y/\jS a x/\jS b y,⟨h0.ini,aPi ha .ini,aPi hb .ini⟩,fun x y g=>g.2,fun x y g l x' hs=>?_,fun y x g l y' hs=>?_⟩
  ·obtain ⟨y',h1,h2⟩:=h0.fw x y g.1 l x' hs
   exact ⟨y',h1,h2,(aJY ha hs).2,(aJY hb h1).2⟩
  ·obtain ⟨x',h1,h2⟩:=h0.bw y x g.1 l y' hs
   exact ⟨x',h1,h2,(aJY ha h1).2,(aJY hb hs).2⟩
 obtain ⟨M,Eo,hu⟩:=uni_ex ha hb
 obtain ⟨p,e,hp⟩:=aRp ha hb fa fb hu
 have hi:=ru_in (M:=M) (Eo:=Eo) ha hb inn
 have hlow:=hp.low (RU a R) (st_pres (aJr ha hb hu) hi (fun x y g=>g.elim .inr .inl) (ru_fst ha hb hu inn hf hb'))
 have hr:RU a R (a.I+0) (b.I+a.N):=.inl ⟨_,_,hini,rfl,rfl⟩
 have:tog a b p=true:=tog_iff.2 (hlow _ _ (hi _ _ hr).1 (hi _ _ hr).2 hr)
 rw [e,this]
end
end Gv
namespace Gv
open Go
structure Bbv (d:Prop) (a b:bA) (R:Int->Int->Prop):Prop where
 fw:Fwd bC (nX a) (nX b) R
 bw:Fwd bC (nX b) (nX a) (fun y x=>R x y)
 df:d->Dvf bC (nX a) (nX b) R
 db:d->Dvf bC (nX b) (nX a) (fun y x=>R x y)
theorem bbv_iso {d:Prop} {a r c:bA} {g:Int->Int} {S:Int->Prop} {R:Int->Int->Prop} (h1:∀ x l x',S x->nX a x l x'->S x'/\nX r (g x) l (g x')) (h2:∀ x l y,S x->nX r (g x) l y->∃ x',nX a x l x'/\y=g x'/\S x') (hB:Bbv d r c R):
  Bbv d a c (fun x y=>S x/\R (g x) y):=by
 refine ⟨?_,?_,?_,?_⟩
 ·rintro x y ⟨hx,hr⟩ l x' hs
  obtain ⟨s1,s2⟩:=h1 x l x' hx hs
  rcases hB.fw _ _ hr l _ s2 with ⟨e1,e2⟩|⟨y1,y',p,q,q2⟩
  ·exact .inl ⟨e1,s1,e2⟩
  ·exact .inr ⟨y1,y',tp_imp (fun z hz=>⟨hx,hz⟩) p,q,s1,q2⟩
 ·rintro y x ⟨hx,hr⟩ l y' hs
  rcases hB.bw _ _ hr l _ hs with ⟨e1,e2⟩|⟨z1,z',p,q,q2⟩
  ·exact .inl ⟨e1,hx,e2⟩
  ·have key:∃ x1,S x1/\z1=g x1/\Tp bC (nX a) (fun x=>S x/\R (g x) y) x x1:=by
    clear q
    induction p with
    |refl=>exact ⟨x,hx,rfl,.refl⟩
    |step _ hs ho ih=>
     obtain ⟨x1,k1,rfl,k3⟩:=ih
     obtain ⟨x2,m1,rfl,m3⟩:=h2 x1 bC _ k1 hs
     exact ⟨x2,m3,rfl,k3.step m1 ⟨m3,ho⟩⟩
   obtain ⟨x1,k1,rfl,k3⟩:=key
   obtain ⟨x2,m1,rfl,m3⟩:=h2 x1 l _ k1 q
   exact .inr ⟨x1,x2,k3,m1,m3,q2⟩
 ·rintro hd x y ⟨hx,hr⟩ ⟨X,h0,hX⟩
  obtain ⟨Y,g0,gY⟩:=hB.df hd _ _ hr ⟨fun z=>∃ x,S x/\z=g x/\X x,⟨x,hx,rfl,h0⟩,by
   rintro z ⟨x,sx,rfl,xx⟩
   obtain ⟨ho,x',hs,hx'⟩:=hX x xx
   obtain ⟨s1,s2⟩:=h1 x bC x' sx hs
   exact ⟨ho.2,g x',s2,x',s1,rfl,hx'⟩⟩
  exact ⟨Y,g0,fun z hz=>⟨⟨hx,(gY z hz).1⟩,(gY z hz).2⟩⟩
 ·rintro hd y x ⟨hx,hr⟩ ⟨X,h0,hX⟩
  obtain ⟨Y,g0,gY⟩:=hB.db hd _ _ hr ⟨X,h0,fun z hz=>⟨(hX z hz).1.2,(hX z hz).2⟩⟩
  refine ⟨fun x=>S x/\Y (g x),⟨hx,g0⟩,fun x ⟨sx,yx⟩=>?_⟩
  obtain ⟨ho,z',hs,hz'⟩:=gY _ yx
  obtain ⟨x',m1,rfl,m3⟩:=h2 x bC z' sx hs
  exact ⟨⟨sx,ho⟩,x',m1,m3,hz'⟩
def Stv (dv:Bool) (r:bA) (p:List Int):Prop:=∀ x y,jS r x->jS r y->kY p x y->(dv=true->(Dv r p x<->Dv r p y))/\BrEq r p x y
structure Quv (dv:Bool) (r:bA) (p:List Int) (c:bA):Prop where
 lab:c.L=r.L
 ed:∀ e,e∈c.E<->(∃ d∈r.E,Nin p d/\e=⟨p.getD d.F.toNat 0,d.B,p.getD d.To.toNat 0⟩)\/(dv=true/\∃ k,jS r k/\Dv r p k/\e=⟨p.getD k.toNat 0,0,p.getD k.toNat 0⟩)
theorem crs_stv {r:bA} {p:List Int} {dv:Bool} (hu:aAG r) (h:Crs r (brF r dv) p):Stv dv r p:=by
 intro x y hx hy hs
 have:kY (brF r dv p) x y:=by rw [h.fix];exact hs
 obtain ⟨_,h2,h3,_⟩:=(aQd hu h.part hx hy).1 this
 exact ⟨h2,h3⟩
theorem bbv_quo {r c:bA} {p:List Int} {dv:Bool} (hu:aAG r) (hp:Stv dv r p) (hq:Quv dv r p c):Bbv (dv=true) r c (fun x y=>jS r x/\y=p.getD x.toNat 0):=by
 have htx:∀ {x y l:Int},oS c ⟨x,l,y⟩=r.L.getD l.toNat []:=fun {x y l}=>by unfold oS;rw [hq.lab]
 have hin:∀ {z y1:Int} {x:Int},jS r x->InP r p x z->jS r z:=fun hx hz=>InP.inn hu hx hz
 have h00:oS c ⟨0,0,0⟩=bC:=by
  rw [htx]
  obtain ⟨M,hM,_⟩:=hu.lab
  rw [hM];rfl
 have tp_of:∀ {x z:Int},jS r x->InP r p x z->Tp bC (nX r) (fun z=>jS r z/\p.getD x.toNat 0=p.getD z.toNat 0) x z:=fun {x z} hx hz=>by
  refine InP.ind (C:=fun z=>Tp bC (nX r) (fun z=>jS r z/\p.getD x.toNat 0=p.getD z.toNat 0) x z) .refl (fun e he h0 hs hi ih=>?_) hz
  exact ih.step ⟨e,he,rfl,(hu.tau he).2 h0,rfl⟩ ⟨(hu.big.inn e he).2.1,(hi.same.trans hs:kY p x e.To)⟩
 refine ⟨?_,?_,?_,?_⟩
 ·rintro x _ ⟨hx,rfl⟩ l x' ⟨e,he,rfl,rfl,rfl⟩
  have hT:=(hu.big.inn e he).2.1
  by_cases hn:e.B=0/\kY p e.F e.To
  ·exact .inl ⟨(hu.tau he).2 hn.1,hT,hn.2⟩
  ·exact .inr ⟨_,p.getD e.To.toNat 0,.refl,⟨⟨p.getD e.F.toNat 0,e.B,p.getD e.To.toNat 0⟩,(hq.ed _).2 (.inl ⟨e,he,hn,rfl⟩),rfl,htx,rfl⟩,hT,rfl⟩
 ·rintro _ x ⟨hx,rfl⟩ l y' ⟨e,he,h1,h2,h3⟩
  rcases (hq.ed e).1 he with ⟨d,hd,hn,rfl⟩|⟨_,k,hk,_,rfl⟩
  ·simp only at h1 h3
   have hdF:=(hu.big.inn d hd).1
   obtain ⟨f,hf,f1,f2,f3,f4⟩:=(hp d.F x hdF hx h1).2 d hd .refl hn
   refine .inr ⟨f.F,f.To,?_,⟨f,hf,rfl,?_,rfl⟩,(hu.big.inn f hf).2.1,?_⟩
   ·exact tp_imp (fun z hz=>hz) (tp_of hx f1)
   ·rw [←h2,htx,←f3];rfl
   ·rw [←h3];exact f4
  ·simp only at h1 h3
   refine .inl ⟨?_,hx,?_⟩
   ·rw [←h2,htx];rw [htx] at h00;exact h00
   ·rw [←h3];exact h1
 ·rintro hdv x _ ⟨hx,rfl⟩ ⟨X,h0,hX⟩
  have hd:Dv r p x:=(aOP hu hx).2 ⟨X,h0,fun z hz=>⟨⟨(hX z hz).1.1,(hX z hz).1.2⟩,(hX z hz).2⟩⟩
  refine ⟨fun z=>z=p.getD x.toNat 0,rfl,?_⟩
  rintro z rfl
  refine ⟨⟨hx,rfl⟩,_,⟨⟨p.getD x.toNat 0,0,p.getD x.toNat 0⟩,(hq.ed _).2 (.inr ⟨hdv,x,hx,hd,rfl⟩),rfl,?_,rfl⟩,rfl⟩
  rw [htx];rw [htx] at h00;exact h00
 ·rintro hdd _ x ⟨hx,rfl⟩ ⟨X,h0,hX⟩
  obtain ⟨_,z',⟨e,he,h1,h2,h3⟩,hz'⟩:=hX _ h0
  have hz2:z'=p.getD x.toNat 0:=(hX _ hz').1.2
  have hd:Dv r p x:=by
   rcases (hq.ed e).1 he with ⟨d,hd,hn,rfl⟩|⟨_,k,hk,hdv,rfl⟩
   ·exfalso
    simp only at h1 h3
    refine hn ⟨(hu.tau hd).1 ?_,?_⟩
    ·rw [←h2,htx];rfl
    ·show p.getD d.F.toNat 0=p.getD d.To.toNat 0
     rw [h1,h3,hz2]
   ·exact ((hp k x hk hx h1).1 hdd).1 hdv
  obtain ⟨Y,g0,gY⟩:=(aOP hu hx).1 hd
  exact ⟨Y,g0,fun z hz=>⟨⟨(gY z hz).1.1,(gY z hz).1.2⟩,(gY z hz).2⟩⟩
end Gv
namespace Gv
open Go
theorem aFd {t:bA} (h:cF t):aAG t:=by
 obtain ⟨L,e,hs⟩:=h.2.2.1.cons
 exact ⟨(big_of h).hug,L,e,hs⟩
theorem blocksC {p:List Int} (hl:p.length < 1000000) (h1:1<=p.length) (hp:∀ z∈p,0<=z/\z < 40):∃ b,vQ p=some b/\IsTop p b:=by
 have h0:=hp _ (List.getElem_mem (show 0 < p.length by omega))
 have key0:=lO (step:=fun s:Int × Int=>dA p s.1 s.2) p.length (fun i (a:Int)=>(a,(i:Int)))
  (fun i a=>IsTop (p.take i) (a+1)) (fun r=>IsTop p (r+1)) (fun i a hi hI=>?_) (fun a hI=>?_) (p.length - 1) 1 (p[0]'(by omega)) (by omega) ?_
 ·obtain ⟨r,g1,g2⟩:=key0
  have g1':loop (fun s:Int × Int=>dA p s.1 s.2) (p[0]'(by omega),1)=some r:=g1
  refine ⟨r+1,?_,g2⟩
  obtain ⟨⟨z,hz,e⟩,_⟩:=g2
  have hzz:=hp z hz
  unfold vQ fN
  rw [if_neg (by simp;omega)]
  unfold iJ
  rw [show (0:Int)=((0:Nat):Int) from rfl,cG (xs:=p) (k:=0) (by omega),aA,g1',aA]
  simp only [nW,aA]
  rw [gA (by omega) (by omega)]
 ·have hz:=hp _ (List.getElem_mem hi)
  have htk:p.take (i+1)=p.take i++[p[i]]:=by rw [List.take_add_one,List.getElem?_eq_getElem hi];rfl
  simp only [dA,bU hi,if_pos,cG hi,aA,bQ hi (show p.length < 4611686018427387904 by omega)]
  refine ⟨_,rfl,?_⟩
  obtain ⟨⟨x,hx,h2⟩,h3⟩:=hI
  rw [htk]
  unfold mxI
  by_cases h:p[i] > a
  ·rw [if_pos h]
   refine ⟨⟨p[i],List.mem_append_right _ (by simp),rfl⟩,fun z hz=>?_⟩
   rcases List.mem_append.1 hz with hz|hz
   ·have:=h3 z hz;omega
   ·simp at hz;subst hz;omega
  ·rw [if_neg h]
   refine ⟨⟨x,List.mem_append_left _ hx,h2⟩,fun z hz=>?_⟩
   rcases List.mem_append.1 hz with hz|hz
   ·exact h3 z hz
   ·simp at hz;subst hz;omega
 ·refine ⟨a,by simp only [dA,dB];rfl,?_⟩
  rwa [List.take_length] at hI
 ·have:p.take 1=[p[0]'(by omega)]:=by
   rcases p with _|⟨a,l⟩
   ·simp at h1
   ·simp
  rw [this]
  exact ⟨⟨_,by simp,rfl⟩,fun z hz=>by simp at hz;subst hz;omega⟩
section
variable {t:bA} {p:List Int}
def qE1 (t:bA) (p:List Int):List Edge:=(t.E.filter fun e=>!inL p e).map fun e=>(⟨bk p e.F,e.B,bk p e.To⟩:Edge)
noncomputable def qE2 (t:bA) (p:List Int):List Edge:=((List.range t.N.toNat).filter fun k=>(aDp (gG t p)).getD k false).map fun k=>(⟨p.getD k 0,0,p.getD k 0⟩:Edge)
noncomputable def quoB (t:bA) (p:List Int) (b:Int):bA:=⟨b,bk p t.I,t.L,fS (rO bZ (fS (rO bZ (qE1 t p))++qE2 t p))⟩
theorem qE1_len:(qE1 t p).length<=t.E.length:=by unfold qE1;rw [List.length_map];exact List.length_filter_le _ _
theorem qE2_len:(qE2 t p).length<=t.N.toNat:=by
 unfold qE2
 rw [List.length_map]
 exact Nat.le_trans (List.length_filter_le _ _) (by rw [List.length_range];exact Nat.le_refl _)
theorem tidy_eq {a b:Int} {L:List aH} {E:List Edge} (h:E.length < 1000000):wS a b L E=some (fS (rO bZ E)):=by
 unfold wS nP
 rw [if_pos (by unfold jT;omega),aA,aIj _ (by unfold rO;rw [List.length_mergeSort];omega),aA]
theorem keep_c1 (hv:cF t) (hp:pF t p) {e:Edge} (he:e∈t.E):kK e p=some (!inL p e):=by
 obtain ⟨h1,h2,_⟩:=xG hv he
 unfold kK lD inL
 by_cases h0:e.B=0
 ·rw [if_neg (by simpa using h0),(oP hp h1).1,aA,(oP hp h2).1,aA,h0]
  simp [bne]
 ·rw [if_pos (by simpa using h0)]
  have:(e.B == 0)=false:=by simpa using h0
  rw [this];rfl
theorem quo1_eq (hv:cF t) (hp:pF t p) {b:Int} (hb:vQ p=some b):yD t p p=some ⟨b,bk p t.I,t.L,fS (rO bZ (qE1 t p))⟩:=by
 have h300:=hv.2.2.2.1
 have h12:=hv.2.2.1.2.1
 have h40:=hv.1
 have hi:=hv.2.1
 unfold yD
 rw [bk_ix hp.1 (s:=t.I) (by omega),aA,hb,aA,aHL _ (by unfold jT;omega),aA]
 unfold xN
 have hl:=aFb (step:=fun s:List Edge × Int=>pA t p p s.1 s.2) t.E (fun e=>!inL p e) (fun e=>(⟨bk p e.F,e.B,bk p e.To⟩:Edge)) id (fun k out x hk ho hx=>by
  have hm:=uN hx
  have hT:=xG hv hm
  have h1:=hT.1
  have h2:=hT.2.1
  unfold jS at h1 h2
  have hw:=bQ hk (show t.E.length < 4611686018427387904 by omega)
  show pA t p p out (k:Int)=_
  unfold pA
  rw [if_pos (bU hk),hx,aA,keep_c1 hv hp hm,aA]
  cases hc:!inL p x with
  |true=>
   rw [if_pos rfl,if_pos rfl,bk_ix hp.1 (s:=x.F) (by omega),aA,bk_ix hp.1 (s:=x.To) (by omega),aA,dC (by simp [jT];omega),aA]
   unfold oZ
   rw [hw]
  |false=>
   rw [if_neg (by simp),if_neg (by simp)]
   unfold oZ
   rw [hw]) (fun out=>by simp only [pA,dB];rfl)
 rw [hl,aA]
 unfold xM
 have:=qE1_len (t:=t) (p:=p)
 rw [show id ((t.E.filter fun e=>!inL p e).map fun e=>(⟨bk p e.F,e.B,bk p e.To⟩:Edge))=qE1 t p from rfl,tidy_eq (by omega),aA]
theorem quo2_eq (hv:cF t) (hp:pF t p) {E:List Edge} (hE:E.length<=300):loop (fun s:List Edge × Int=>fY p (aDp (gG t p)) s.1 s.2) (E,0)=some (E++qE2 t p):=by
 have h40:=hv.1
 have hd:=(aKU (aFT (q:=p) (aFd hv)).big).2.len
 have hd':(aDp (gG t p)).length=t.N.toNat:=hd
 have:=aOD (step:=fun s:List Edge × Int=>fY p (aDp (gG t p)) s.1 s.2) (List.range t.N.toNat) (fun k=>(aDp (gG t p)).getD k false) (fun k=>(⟨p.getD k 0,0,p.getD k 0⟩:Edge)) id 300 (fun k out x hk ho hx=>by
  rw [List.length_range] at hk
  have hxk:x=k:=by rw [rS,List.getElem?_range hk] at hx;exact (Option.some.inj hx).symm
  subst hxk
  have hkd:x < (aDp (gG t p)).length:=by omega
  have hw:=bQ hkd (show (aDp (gG t p)).length < 4611686018427387904 by omega)
  show fY p (aDp (gG t p)) out (x:Int)=_
  unfold fY
  have hg:(aDp (gG t p)).getD x false=(aDp (gG t p))[x]:=by rw [List.getD_eq_getElem?_getD,List.getElem?_eq_getElem hkd];rfl
  rw [if_pos (bU hkd),cG hkd,aA,hg]
  cases (aDp (gG t p))[x] with
  |true=>
   have hpx:ix p (x:Int)=some (p.getD x 0):=by
    have:=(oP hp (s:=(x:Int)) (by unfold jS;omega)).1
    rw [Int.toNat_natCast] at this;exact this
   rw [if_pos rfl,if_pos rfl,hpx,aA,dC (by simp [jT];omega),aA]
   unfold iK
   rw [hw]
  |false=>
   rw [if_neg (by simp),if_neg (by simp)]
   unfold iK
   rw [hw]) (fun out=>by
  rw [List.length_range,←hd']
  simp only [fY,dB];rfl) (o:=E) hE
 rw [this];rfl
theorem quoB_eq (hv:cF t) (hp:pF t p) {b:Int} (hb:vQ p=some b):iL t p true=some (quoB t p b):=by
 have h300:=hv.2.2.2.1
 have h40:=hv.1
 have hu:=aFd hv
 have hl1:=qE1_len (t:=t) (p:=p)
 have hl2:=qE2_len (t:=t) (p:=p)
 have hl3:=aJp (qE1 t p)
 unfold iL
 rw [quo1_eq hv hp hb,aA,if_pos rfl,aQb hu.big hp,aA,(aKU (aFT (q:=p) hu).big).1,aA]
 simp only
 rw [quo2_eq hv hp (by omega),aA]
 unfold qU
 rw [tidy_eq (by rw [List.length_append];omega),aA]
 rfl
noncomputable def quoV (dv:Bool) (t:bA) (p:List Int) (b:Int):bA:=if dv=true then quoB t p b else ⟨b,bk p t.I,t.L,fS (rO bZ (qE1 t p))⟩
theorem quoV_eq (hv:cF t) (hp:pF t p) {b:Int} (hb:vQ p=some b) (dv:Bool):iL t p dv=some (quoV dv t p b):=by
 cases dv with
 |true=>exact quoB_eq hv hp hb
 |false=>
  unfold iL
  rw [quo1_eq hv hp hb,aA,if_neg (by simp)]
  rfl
theorem qE1_mem {e:Edge}:e∈qE1 t p<->∃ d∈t.E,Nin p d/\e=⟨p.getD d.F.toNat 0,d.B,p.getD d.To.toNat 0⟩:=by
 unfold qE1
 rw [List.mem_map]
 constructor
 ·rintro ⟨d,hd,rfl⟩
  obtain ⟨h1,h2⟩:=List.mem_filter.1 hd
  refine ⟨d,h1,fun hn=>?_,rfl⟩
  rw [aJq.2 hn] at h2;cases h2
 ·rintro ⟨d,hd,hn,rfl⟩
  refine ⟨d,List.mem_filter.2 ⟨hd,?_⟩,rfl⟩
  cases h:inL p d with
  |false=>rfl
  |true=>exact absurd (aJq.1 h) hn
theorem qE2_mem (hv:cF t) {e:Edge}:e∈qE2 t p<->∃ k,jS t k/\Dv t p k/\e=⟨p.getD k.toNat 0,0,p.getD k.toNat 0⟩:=by
 have hu:=aFd hv
 unfold qE2
 rw [List.mem_map]
 constructor
 ·rintro ⟨k,hk,rfl⟩
  obtain ⟨h1,h2⟩:=List.mem_filter.1 hk
  rw [List.mem_range] at h1
  have hin:jS t (k:Int):=by unfold jS;omega
  exact ⟨(k:Int),hin,(aON hu hin).1 (by rw [Int.toNat_natCast];exact h2),by rw [Int.toNat_natCast]⟩
 ·rintro ⟨k,hk,hd,rfl⟩
  have hk':=hk
  unfold jS at hk'
  exact ⟨k.toNat,List.mem_filter.2 ⟨by rw [List.mem_range];omega,(aON hu hk).2 hd⟩,rfl⟩
theorem quoV_quo (hv:cF t) (b:Int) (dv:Bool):Quv dv t p (quoV dv t p b):=by
 cases dv with
 |true=>
  refine ⟨rfl,fun e=>?_⟩
  show e∈fS (rO bZ _)<->_
  rw [aFS,List.mem_append,aFS,qE1_mem,qE2_mem hv]
  simp only [true_and]
 |false=>
  refine ⟨rfl,fun e=>?_⟩
  show e∈fS (rO bZ _)<->_
  rw [aFS,qE1_mem]
  simp
theorem quv_len {c:bA} {dv:Bool} (hq:Quv dv t p c) (hn:c.E.Nodup):c.E.length<=t.E.length:=by
 have:=List.Nodup.length_le_of_subset (l₂:=t.E.map fun d=>(⟨p.getD d.F.toNat 0,d.B,p.getD d.To.toNat 0⟩:Edge)) hn (fun e he=>by
  rw [List.mem_map]
  rcases (hq.ed e).1 he with ⟨d,hd,_,rfl⟩|⟨_,k,hk,⟨X,hX,h0⟩,rfl⟩
  ·exact ⟨d,hd,rfl⟩
  ·obtain ⟨d,hd,h1,h2,_⟩:=hX k h0
   obtain ⟨g1,g2,g3⟩:=aDY.1 hd
   refine ⟨d,g1,?_⟩
   have e3:p.getD d.F.toNat 0=p.getD d.To.toNat 0:=g3
   rw [g2,←e3,h1])
 rwa [List.length_map] at this
theorem quoV_SE (dv:Bool) (b:Int):SE (quoV dv t p b).E:=by
 cases dv with
 |true=>exact aJo _
 |false=>exact aJo _
theorem quoV_st (dv:Bool) (b:Int):(quoV dv t p b).N=b/\(quoV dv t p b).I=bk p t.I:=by
 cases dv with
 |true=>exact ⟨rfl,rfl⟩
 |false=>exact ⟨rfl,rfl⟩
theorem quo_valid {c:bA} {dv:Bool} (hv:cF t) (hp:pF t p) {b:Int} (ht:IsTop p b) (hq:Quv dv t p c) (hs:c.N=b) (hi:c.I=p.getD t.I.toNat 0) (hse:SE c.E) (hl:c.E.length<=300):cF c:=by
 have h1:=hv.1
 have h2:=hv.2.1
 have hz:∀ s,jS t s->0<=p.getD s.toNat 0/\p.getD s.toNat 0<=b - 1:=fun s hs=>by
  have hb:=(oP hp hs).2
  have hs':=hs
  unfold jS at hs'
  have:=ht.2 (p.getD s.toNat 0) (by
   rw [List.getD_eq_getElem?_getD,List.getElem?_eq_getElem (by rw [hp.1];omega)];exact List.getElem_mem _)
  omega
 have hini:=hz t.I (by unfold jS;omega)
 obtain ⟨⟨z,hz1,hz2⟩,_⟩:=ht
 have hz3:=hp.2 z hz1
 refine ⟨by rw [hs];omega,by rw [hs,hi];exact hini,by rw [hq.lab];exact hv.2.2.1,aFR hl hse fun e he=>?_⟩
 rcases (hq.ed e).1 he with ⟨d,hd,_,rfl⟩|⟨_,k,hk,_,rfl⟩
 ·obtain ⟨g1,g2,g3⟩:=xG hv hd
  have a1:=hz _ g1
  have a2:=hz _ g2
  refine ⟨?_,?_,?_⟩
  ·rw [hs];exact a1
  ·rw [hs];exact a2
  ·rw [hq.lab];exact ⟨g3.1,by show d.B<=_;omega⟩
 ·have a1:=hz _ hk
  have hlab:=hv.2.2.1.1
  refine ⟨?_,?_,?_⟩
  ·rw [hs];exact a1
  ·rw [hs];exact a1
  ·rw [hq.lab];exact ⟨by show (0:Int)<=0;omega,by show (0:Int)<=_;omega⟩
def RQ (t:bA) (p:List Int) (x c:Int):Prop:=x∈RL t/\jS (aCb t (RL t)) (pos (RL t) x)/\c=p.getD (pos (RL t) x).toNat 0
theorem RL_mem (hv:cF t) {x:Int}:x∈RL t<->0<=x/\Rt t x.toNat:=by
 unfold RL
 rw [List.mem_map]
 constructor
 ·rintro ⟨k,hk,rfl⟩
  exact ⟨Int.natCast_nonneg k,aGl.1 (List.mem_filter.1 hk).2⟩
 ·rintro ⟨h0,hr⟩
  exact ⟨x.toNat,List.mem_filter.2 ⟨by rw [List.mem_range];exact Rt_lt hv hr,aHT hr⟩,by show ((x.toNat:Nat):Int)=x;omega⟩
theorem aNG {S:List Int} {e:Edge}:e∈(aCb t S).E<->∃ d∈t.E,0<=pos S d.F/\0<=pos S d.To/\(⟨pos S d.F,d.B,pos S d.To⟩:Edge)=e:=by
 show e∈aDe t S<->_
 unfold aDe
 rw [List.mem_filterMap]
 constructor
 ·rintro ⟨d,hd,he⟩
  simp only [Option.ite_none_right_eq_some,Option.some.injEq] at he
  exact ⟨d,hd,he.1.1,he.1.2,he.2⟩
 ·rintro ⟨d,hd,h1,h2,he⟩
  exact ⟨d,hd,by rw [if_pos ⟨h1,h2⟩,he]⟩
theorem bbv_least {c:bA} {dv:Bool} (hv:cF t) (hst:Stv dv (aCb t (RL t)) p) (hq:Quv dv (aCb t (RL t)) p c):Bbv (dv=true) t c (RQ t p):=by
 have hr:=aOG hv
 have hQ:=bbv_quo (aFd hr) hst hq
 refine bbv_iso (g:=fun x=>pos (RL t) x) (S:=fun x=>x∈RL t) (R:=fun x y=>jS (aCb t (RL t)) x/\y=p.getD x.toNat 0) ?_ ?_ hQ
 ·rintro x l x' hx ⟨e,he,rfl,rfl,rfl⟩
  obtain ⟨h0,h1⟩:=(RL_mem hv).1 hx
  have hT:=(xG hv he).2.1
  unfold jS at hT
  have hx':e.To∈RL t:=(RL_mem hv).2 ⟨hT.1,Rt.step he h1⟩
  exact ⟨hx',⟨pos (RL t) e.F,e.B,pos (RL t) e.To⟩,aNG.2 ⟨e,he,aBZ.2 hx,aBZ.2 hx',rfl⟩,rfl,rfl,rfl⟩
 ·rintro x l y hx ⟨e,he,h1,h2,h3⟩
  obtain ⟨d,hd,a1,a2,rfl⟩:=aNG.1 he
  have hdF:d.F∈RL t:=aBZ.1 a1
  have e1:d.F=x:=aMi hdF hx h1
  exact ⟨d.To,⟨d,hd,e1,h2,rfl⟩,h3.symm,aBZ.1 a2⟩
theorem least_ini (hv:cF t):RQ t p t.I (p.getD (aCb t (RL t)).I.toNat 0):=by
 have h2:=hv.2.1
 have hin:t.I∈RL t:=(RL_mem hv).2 ⟨h2.1,Rt.init⟩
 have hr:=(aOG hv).2.1
 refine ⟨hin,?_,rfl⟩
 have:pos (RL t) t.I=(aCb t (RL t)).I:=rfl
 rw [this]
 unfold jS;omega
structure Lik (d:Prop) (t c:bA):Prop where
 ex:∃ R,Bbv d t c R/\R t.I c.I
 ok:cF c
 lab:∀ s∈c.L,s∈t.L
theorem aQn (hv:cF t) (dv:Bool):∃ c,mR t dv=some c/\Lik (dv=true) t c:=by
 have hr:=aOG hv
 have hl:=RL_len t
 have h1:=hv.1
 have hr1:=hr.1
 have h300:=hr.2.2.2.1
 obtain ⟨p,hp1,hp2⟩:=aKx (aFd hr) dv
 have hpl:=hp2.part.1
 obtain ⟨b,hb1,hb2⟩:=blocksC (p:=p) (by omega) (by omega) (fun z hz=>by have:=hp2.part.2 z hz;omega)
 have hq:=quoV_quo (p:=p) hr b dv
 have hse:=quoV_SE (t:=aCb t (RL t)) (p:=p) dv b
 have hnd:(quoV dv (aCb t (RL t)) p b).E.Nodup:=hse.imp fun {a b} h e=>by subst e;rw [vT] at h;cases h
 have hlen:=quv_len hq hnd
 obtain ⟨q1,q2⟩:=quoV_st (t:=aCb t (RL t)) (p:=p) dv b
 have hok:cF (quoV dv (aCb t (RL t)) p b):=quo_valid hr hp2.part hb2 hq q1 q2 hse (by omega)
 have hini:RQ t p t.I (quoV dv (aCb t (RL t)) p b).I:=by rw [q2];exact least_ini hv
 refine ⟨_,?_,⟨⟨RQ t p,bbv_least hv (crs_stv (aFd hr) hp2) hq,hini⟩,hok,fun s hs=>by rw [hq.lab] at hs;exact hs⟩⟩
 unfold mR
 rw [aOz hv,aA,part_eq hv (by omega) (RL_pair _),aA]
 unfold nF
 rw [show (⟨(aCb t (RL t)).N,(aCb t (RL t)).I,(aCb t (RL t)).L,(aCb t (RL t)).E⟩:bA)=aCb t (RL t) from rfl,hp1,aA,quoV_eq hr hp2.part hb1,aA]
end
end Gv
namespace Gv
open Go
theorem T6_lab:∀ s∈T6,aHl s=true:=by decide
theorem labs6 {M:List aH} (hM:pV M) (hn:∀ s∈M,s∈T6):aIF (bC::M):=by
 have hnd:M.Nodup:=hM.1.imp fun {a b} h e=>by subst e;rw [lB] at h;cases h
 have hl:M.length<=8:=by
  have:=List.Nodup.length_le_of_subset (l₁:=bC::M) (l₂:=T6) (List.nodup_cons.2 ⟨hM.2,hnd⟩) (fun x hx=>by
   rcases List.mem_cons.1 hx with rfl|hx
   ·simp [T6]
   ·exact hn x hx)
  have h6:T6.length=9:=rfl
  rw [List.length_cons] at this
  omega
 refine ⟨by simp,by simp;omega,fun _=>rfl,fun k h1 hk=>?_⟩
 obtain ⟨k,rfl⟩:∃ j,k=j+1:=⟨k - 1,by omega⟩
 have hk':k < M.length:=by simpa using hk
 have hm:M[k]∈M:=List.getElem_mem hk'
 rw [List.getElem_cons_succ]
 refine ⟨T6_lab _ (hn _ hm),fun e=>hM.2 (e ▸ hm),fun h2=>?_⟩
 obtain ⟨k,rfl⟩:∃ j,k=j+1:=⟨k - 1,by omega⟩
 have:=List.pairwise_iff_getElem.1 hM.1 k (k+1) (by omega) hk' (by omega)
 simpa using this
theorem aQo {st ini:Int} (h1:1<=st/\st<=40) (h2:0<=ini/\ini<=st - 1) {L:List aH} (hL:∀ s∈L,s∈T6) (hl:L.length<=1000) {as:List cO} (ha:as.length<=300)
  (hin:∀ a∈as,(0<=a.from_/\a.from_<=st - 1)/\(0<=a.to_/\a.to_<=st - 1)/\(a.label∈L\/a.label=bC)):
  ∃ c,aFC st ini L as=some c/\cF c/\c.N=st/\c.I=ini/\(∀ s∈c.L,s∈T6)/\∀ x l y,nX c x l y<->∃ a∈as,a.from_=x/\a.label=l/\a.to_=y:=by
 obtain ⟨M,_,hM,hm,hMl⟩:=aHq L (by omega)
 have hE:=lts_dup (st:=st) (ini:=ini) (arcs:=as) hM hm (by omega) (by omega) (by omega)
 have hp:∀ a∈as,a.label∈bC::M:=fun a h=>by
  rcases (hin a h).2.2 with g|g
  ·exact aPe hm g
  ·rw [g];exact List.mem_cons_self
 have hmem:∀ e,e∈fS (rO bZ (as.map fun a=>(⟨a.from_,pos (bC::M) a.label,a.to_⟩:Edge)))<->∃ a∈as,(⟨a.from_,pos (bC::M) a.label,a.to_⟩:Edge)=e:=fun e=>by rw [aFS,List.mem_map]
 have hlen:=aJp (as.map fun a=>(⟨a.from_,pos (bC::M) a.label,a.to_⟩:Edge))
 rw [List.length_map] at hlen
 have hM6:∀ s∈M,s∈T6:=fun s hs=>hL s ((hm s).1 hs).1
 refine ⟨_,hE,⟨h1,h2,labs6 hM hM6,aFR (by show (fS _).length<=300;omega) (aJo _) fun e he=>?_⟩,rfl,rfl,fun s hs=>?_,fun x l y=>?_⟩
 ·obtain ⟨a,h,rfl⟩:=(hmem e).1 he
  have hq:=aJn (hp a h)
  exact ⟨(hin a h).1,(hin a h).2.1,hq.1,by show pos (bC::M) _<=((bC::M).length:Int) - 1;omega⟩
 ·rcases List.mem_cons.1 hs with rfl|hs
  ·decide
  ·exact hM6 s hs
 ·constructor
  ·rintro ⟨e,he,g1,g2,g3⟩
   obtain ⟨a,h,rfl⟩:=(hmem e).1 he
   exact ⟨a,h,g1,by rw [←g2];exact (aLd rfl (hp a h) _ _).symm,g3⟩
  ·rintro ⟨a,h,g1,g2,g3⟩
   exact ⟨⟨a.from_,pos (bC::M) a.label,a.to_⟩,(hmem _).2 ⟨a,h,rfl⟩,g1,(aLd rfl (hp a h) _ _).trans g2,g3⟩
def alB (n:aO) (nm:aH):Bool:=n.Allowed.any fun x=>nm == x
def hiB (n:aO) (nm:aH):Bool:=n.Hidden.any fun x=>nm == x
def mmB (n:aO) (nm:aH):Bool:=n.Meetings.any fun m=>m.Left == nm||m.Right == nm
def kpS (n:aO) (s:aH):Bool:=alB n (uO s)||mmB n (uO s)
def aCf (n:aO) (s:aH):aH:=if (alB n (uO s)&&(hiB n (uO s)&&!mmB n (uO s)))=true then bC else s
theorem name6 {s:aH} (h:s∈T6):oI s=some (uO s):=by
 unfold oI
 rw [rd6 h,aA]
theorem relS_in {n:aO} {s:aH} (h:s∈T6):aCf n s∈T6:=by
 unfold aCf
 split
 ·decide
 ·exact h
section
variable {n:aO}
theorem aQp (hm:n.Meetings.length<=6) (nm:aH):rU n nm=some (mmB n nm):=by
 unfold rU fD dZ
 have hl:=wT (step:=fun s=>cM n.Meetings nm s) n.Meetings (fun m=>m.Left == nm||m.Right == nm) (fun k x hk hx=>by
  have hw:=bQ hk (show n.Meetings.length < 4611686018427387904 by omega)
  simp only [cM,bU hk,if_pos,hx,aA,hw]
  unfold vL rG
  by_cases h1:(x.Left == nm)=true
  ·rw [if_pos h1,h1,Bool.true_or,aA]
  ·have h1':(x.Left == nm)=false:=by simpa using h1
   rw [if_neg h1,h1',Bool.false_or,aA]) (by simp only [cM,dB];rfl)
 rw [hl,aA]
 unfold mmB
 cases hf:n.Meetings.findIdx? (fun m=>m.Left == nm||m.Right == nm) with
 |none=>
  have:n.Meetings.any (fun m=>m.Left == nm||m.Right == nm)=false:=by
   rw [List.any_eq_false]
   exact fun x hx=>by have:=(List.findIdx?_eq_none_iff.1 hf) x hx;rw [this];simp
  rw [this];rfl
 |some i=>
  have:n.Meetings.any (fun m=>m.Left == nm||m.Right == nm)=true:=by
   rw [List.any_eq_true]
   obtain ⟨hi,hp,_⟩:=List.findIdx?_eq_some_iff_getElem.1 hf
   exact ⟨_,List.getElem_mem hi,hp⟩
  rw [this]
  simp only [fC,aA]
  rw [decide_eq_true (by omega)]
structure Sh (n:aO):Prop where
 me:n.Meetings.length<=6
 al:n.Allowed.length<=12
 hid:n.Hidden.length<=12
theorem rel_eq (h:Sh n) {s:aH} (hs:s∈T6):iH s n=some (aCf n s):=by
 have h1:=h.me
 have h2:=h.al
 have h3:=h.hid
 unfold iH iR
 rw [name6 hs,aA,aBY _ _ (by omega),aA]
 unfold aCf
 show (if alB n (uO s)=true then _ else _)=_
 cases alB n (uO s) with
 |false=>rw [if_neg (by simp),if_neg (by simp),if_neg (by simp)]
 |true=>
  rw [if_pos rfl,aBY _ _ (by omega),aA]
  show (if hiB n (uO s)=true then _ else _)=_
  cases hiB n (uO s) with
  |false=>rw [if_neg (by simp),if_neg (by simp),if_neg (by simp)]
  |true=>
   rw [if_pos rfl,aQp h1,aA]
   cases mmB n (uO s) with
   |false=>rw [if_pos (by simp),if_pos (by simp)];rfl
   |true=>rw [if_neg (by simp),if_neg (by simp)]
variable {t:bA}
def kpE (n:aO) (t:bA) (e:Edge):Bool:=e.B == 0||kpS n (oS t e)
theorem keep_eq (h:Sh n) (ht:aCz t) {e:Edge} (he:e∈t.E):kI e t n=some (kpE n t e):=by
 have h1:=h.me
 have h2:=h.al
 have h6:=ht.lab _ (vU ht.ok he)
 unfold kI iQ
 rw [aHo (rN ht.ok he),aA,name6 h6,aA]
 unfold kpE kpS
 cases e.B == 0 with
 |true=>rw [if_pos rfl,Bool.true_or]
 |false=>
  rw [if_neg (by simp),Bool.false_or,aBY _ _ (by omega),aA]
  show (if alB n (uO (oS t e))=true then _ else _)=_
  cases alB n (uO (oS t e)) with
  |true=>rw [if_pos rfl,Bool.true_or]
  |false=>rw [if_neg (by simp),Bool.false_or,aQp h1,aA]
theorem only_eq (h:Sh n) (ht:aCz t):aAy t t n=some ⟨t.N,t.I,t.L,t.E.filter (kpE n t)⟩:=by
 have h300:=ht.ok.2.2.2.1
 unfold aAy
 have hl:=aFb (step:=fun s:List Edge × Int=>qC t t n s.1 s.2) t.E (kpE n t) (fun e=>e) id (fun k out x hk ho hx=>by
  have hm:=uN hx
  have hw:=bQ hk (show t.E.length < 4611686018427387904 by omega)
  show qC t t n out (k:Int)=_
  unfold qC
  rw [if_pos (bU hk),hx,aA,keep_eq h ht hm,aA]
  unfold uC
  cases kpE n t x with
  |true=>rw [if_pos rfl,if_pos rfl,dC (by simp [jT];omega),aA,hw]
  |false=>rw [if_neg (by simp),if_neg (by simp),hw]) (fun out=>by simp only [qC,dB];rfl)
 rw [hl,aA]
 unfold aCs
 rw [List.map_id'];rfl
theorem filt_ok (hv:cF t) (p:Edge->Bool):cF ⟨t.N,t.I,t.L,t.E.filter p⟩:=by
 have h300:=hv.2.2.2.1
 refine ⟨hv.1,hv.2.1,hv.2.2.1,aFR (Nat.le_trans (List.length_filter_le _ _) h300) ?_ fun e he=>?_⟩
 ·exact List.Pairwise.sublist List.filter_sublist (aFN hv)
 ·exact rN hv (List.mem_filter.1 he).1
structure Psh (n:aO) (t c:bA):Prop where
 ok:aCz c
 st:c.N=t.N
 ini:c.I=t.I
 mv:∀ x l y,nX c x l y<->∃ s,nX t x s y/\(s=bC\/kpS n s=true)/\aCf n s=l
theorem aPl (h:Sh n) {as:List cO} (hl:as.length<=300) (h6:∀ a∈as,a.label∈T6):loop (fun s:List cO × Int=>lY n as s.1 s.2) (as,0)=some (as.map fun a=>(⟨a.from_,aCf n a.label,a.to_⟩:cO)):=by
 have key:=tR (step:=fun s:List cO × Int=>lY n as s.1 s.2) as.length (fun k (a:List cO)=>(a,(k:Int))) (fun _ _=>as.map fun a=>(⟨a.from_,aCf n a.label,a.to_⟩:cO))
  (fun k a=>a=(as.take k).map (fun a=>(⟨a.from_,aCf n a.label,a.to_⟩:cO))++as.drop k) (fun k a hk hI=>?_) (fun a hI=>?_) as.length 0 as (by omega) (by simp)
 ·exact key
 ·left
  subst hI
  have hw:=bQ hk (show as.length < 4611686018427387904 by omega)
  have hlen:((as.take k).map fun a=>(⟨a.from_,aCf n a.label,a.to_⟩:cO)).length=k:=by rw [List.length_map,List.length_take];omega
  have hd:as.drop k=as[k]::as.drop (k+1):=List.drop_eq_getElem_cons hk
  have htk:as.take (k+1)=as.take k++[as[k]]:=by rw [List.take_add_one,List.getElem?_eq_getElem hk];rfl
  refine ⟨_,?_,rfl,rfl⟩
  show lY n as _ (k:Int)=_
  unfold lY
  have hix:ix (((as.take k).map fun a=>(⟨a.from_,aCf n a.label,a.to_⟩:cO))++as.drop k) (k:Int)=some as[k]:=by
   rw [rS,List.getElem?_append_right (by omega),hlen,Nat.sub_self,hd];rfl
  have hst:Gv.st (((as.take k).map fun a=>(⟨a.from_,aCf n a.label,a.to_⟩:cO))++as.drop k) (k:Int) (⟨as[k].from_,aCf n as[k].label,as[k].to_⟩:cO)=some (((as.take (k+1)).map fun a=>(⟨a.from_,aCf n a.label,a.to_⟩:cO))++as.drop (k+1)):=by
   rw [aBu _ (by rw [List.length_append,hlen,List.length_drop];omega)]
   rw [List.set_append_right _ _ (by omega),hlen,Nat.sub_self,hd,List.set_cons_zero,htk,List.map_append,List.append_assoc];rfl
  rw [if_pos (bU hk),hix,aA,rel_eq h (h6 _ (List.getElem_mem hk)),aA,hst,aA,hw]
 ·subst hI
  show lY n as _ (as.length:Int)=_
  unfold lY
  rw [if_neg (by simp),List.take_length,List.drop_length,List.append_nil]
theorem push_part (h:Sh n) (ht:aCz t):∃ c,lZ t n=some c/\Psh n t c:=by
 have h12:=ht.ok.2.2.1.2.1
 have hT:=filt_ok ht.ok (kpE n t)
 generalize hfe:t.E.filter (kpE n t)=E at hT
 have h300:E.length<=300:=hT.2.2.2.1
 have hEm:∀ e,e∈E<->e∈t.E/\kpE n t e=true:=fun e=>by rw [←hfe,List.mem_filter]
 have htx:∀ e,oS (⟨t.N,t.I,t.L,E⟩:bA) e=oS t e:=fun e=>rfl
 have hE6:∀ e∈E,oS t e∈T6:=fun e he=>ht.lab _ (vU ht.ok ((hEm e).1 he).1)
 have hin:∀ e∈E,(0<=e.F/\e.F<=t.N - 1)/\(0<=e.To/\e.To<=t.N - 1):=fun e he=>by
  obtain ⟨a,b,_⟩:=rN ht.ok ((hEm e).1 he).1
  exact ⟨a,b⟩
 generalize has:E.map (fun e=>(⟨e.F,oS t e,e.To⟩:cO))=as
 have hasl:as.length<=300:=by rw [←has,List.length_map];exact h300
 have ham:∀ a,a∈as<->∃ e∈E,(⟨e.F,oS t e,e.To⟩:cO)=a:=fun a=>by rw [←has,List.mem_map]
 have ha6:∀ a∈as,a.label∈T6:=fun a ha=>by
  obtain ⟨e,he,rfl⟩:=(ham a).1 ha
  exact hE6 e he
 obtain ⟨c1,e1,k1,k2,k3,k4,k5⟩:=aQo (st:=t.N) (ini:=t.I) ht.ok.1 ht.ok.2.1 (L:=t.L.map (aCf n)) (fun s hs=>by
  obtain ⟨r,hr,rfl⟩:=List.mem_map.1 hs
  exact relS_in (ht.lab r hr)) (by rw [List.length_map];omega) (as:=as.map fun a=>(⟨a.from_,aCf n a.label,a.to_⟩:cO)) (by rw [List.length_map];exact hasl) (fun a ha=>by
  obtain ⟨b,hb,rfl⟩:=List.mem_map.1 ha
  obtain ⟨e,he,rfl⟩:=(ham b).1 hb
  exact ⟨(hin e he).1,(hin e he).2,.inl (List.mem_map_of_mem (vU ht.ok ((hEm e).1 he).1))⟩)
 have hc300:=k1.2.2.2.1
 obtain ⟨c2,f1,g1,g2,g3,g4,g5⟩:=aQo (st:=c1.N) (ini:=c1.I) k1.1 k1.2.1 (L:=(c1.E.map fun e=>(⟨e.F,oS c1 e,e.To⟩:cO)).map (·.label)) (fun s hs=>by
  obtain ⟨b,hb,rfl⟩:=List.mem_map.1 hs
  obtain ⟨e,he,rfl⟩:=List.mem_map.1 hb
  exact k4 _ (vU k1 he)) (by rw [List.length_map,List.length_map];omega) (as:=c1.E.map fun e=>(⟨e.F,oS c1 e,e.To⟩:cO)) (by rw [List.length_map];omega) (fun a ha=>by
  refine ⟨?_,?_,.inl (List.mem_map_of_mem ha)⟩
  ·obtain ⟨e,he,rfl⟩:=List.mem_map.1 ha
   exact (rN k1 he).1
  ·obtain ⟨e,he,rfl⟩:=List.mem_map.1 ha
   exact (rN k1 he).2.1)
 refine ⟨c2,?_,⟨⟨g1,g4⟩,g2.trans k2,g3.trans k3,fun x l y=>?_⟩⟩
 ·unfold lZ
  rw [only_eq h ht,aA,hfe]
  unfold aCE
  have hlb:=uL (step:=fun s:List aH × Int=>uD ⟨t.N,t.I,t.L,E⟩ n s.1 s.2) t.L (aCf n) id (fun k out x hk ho hx=>by
   simp only [uD,bU hk,if_pos,hx,aA,rel_eq h (ht.lab _ (uN hx)),bQ hk (show t.L.length < 4611686018427387904 by omega)]
   rw [dC (by simp [jT];omega),aA]) (fun out=>by simp only [uD,dB];rfl)
  rw [hlb,aA]
  unfold zU
  have hae:=aKQ (t:=⟨t.N,t.I,t.L,E⟩) (fun e he=>rN hT he) (by show E.length < 2000000;omega)
  rw [hae,aA]
  have hae2:(E.map fun e=>(⟨e.F,oS (⟨t.N,t.I,t.L,E⟩:bA) e,e.To⟩:cO))=as:=has
  simp only
  rw [hae2,aPl h hasl ha6,aA]
  unfold aCt
  simp only [id_eq]
  rw [e1,aA,aA]
  unfold zQ
  rw [aKQ (fun e he=>rN k1 he) (by omega),aA,aJt (by rw [List.length_map];omega),aA,f1,aA,aA]
 ·rw [g5]
  constructor
  ·rintro ⟨a,ha,q1,q2,q3⟩
   obtain ⟨e,he,rfl⟩:=List.mem_map.1 ha
   obtain ⟨b,hb,r1,r2,r3⟩:=(k5 x l y).1 ⟨e,he,q1,q2,q3⟩
   obtain ⟨d,hd,rfl⟩:=List.mem_map.1 hb
   obtain ⟨f,hf,rfl⟩:=(ham d).1 hd
   obtain ⟨hf1,hf2⟩:=(hEm f).1 hf
   refine ⟨oS t f,⟨f,hf1,r1,rfl,r3⟩,?_,r2⟩
   unfold kpE at hf2
   rw [Bool.or_eq_true] at hf2
   rcases hf2 with q|q
   ·left
    have hz:f.B=0:=by simpa using q
    exact (aFd ht.ok).tau hf1 |>.2 hz
   ·exact .inr q
  ·rintro ⟨s,⟨f,hf,r1,r2,r3⟩,hs,hl⟩
   have hfE:f∈E:=(hEm f).2 ⟨hf,by
    unfold kpE
    rw [Bool.or_eq_true]
    rcases hs with hs|hs
    ·left
     have:=(aFd ht.ok).tau hf |>.1 (r2.trans hs)
     simpa using this
    ·right;rw [r2];exact hs⟩
   obtain ⟨e,he,q1,q2,q3⟩:=(k5 x l y).2 ⟨⟨f.F,aCf n (oS t f),f.To⟩,List.mem_map.2 ⟨⟨f.F,oS t f,f.To⟩,(ham _).2 ⟨f,hfE,rfl⟩,rfl⟩,r1,by rw [r2];exact hl,r3⟩
   exact ⟨⟨e.F,oS c1 e,e.To⟩,List.mem_map_of_mem he,q1,q2,q3⟩
end
end Gv
