/- Walks, printed by program. -/
import Derived.Test.YtokmmhfhaoanmaaGreatDoorJWk7
set_option linter.all false
namespace Gv
open Gv.Hp renaming le_refl→zR
open Go.Value renaming slice→zS,bool→zB,agg→zA,tuple→zT
open Option.some renaming inj→zI
open Gv.Hp renaming le_trans→zL
open Go Go.Proofs Go.Proofs.Tryz
set_option maxRecDepth 20000
set_option maxHeartbeats 40000000
variable {G:mL} {K Kf:Hp} {L:List eU} {w:World} {a1 a4 a7 a10 a13 a3 a2 a5 a8:Option Addr} {c2 c5 c8 c11 c14 c4 b1 c3 c6 c9:Nat}
theorem aHg {a b:Int} {x:(List aH)} {y:(List lN)} {R:iQ} (hm:aRd a b x y=some R) (hs:aD G K (L) w) (h3:aW K a1 c2 x) (h6:aW K a4 c5 y):
  Calls prog 78 ([i64 a,i64 b,zS a1 x.length c2,zS a4 y.length c5]:List Value).toArray w (cN fun v w'=>∃ a3 a5 a6 a7,v=zA (zCa R a3 a5 a6 a7)/\aD G K (aJ 9 K a3 a5 R.L::aJ 83 K a6 a7 R.E::L) w'):=by
 let h:=zG
 refine cC func78 ?_;unfold aRd at hm
 refine aC ?_;refine pO fun j w8 f2=>?_
 refine aC ?_;refine vJ ([([116,97,117]:aH)]:List aH) fun f3 f4 b4=>?_
 refine aC ?_;obtain ⟨n,b5,hm⟩:=aB hm
 refine aRN (i:=0) sP underlying25 ez_9 rfl rfl b4 rfl (zR _) h3 b5 rfl rfl rfl rfl (fun d e b6 (f5:aD G K (aJ 9 K d e n::box j 47 h::L) b6)=>(aL (gW (vs:=[(0,i64 a),(1,i64 b),(2,zS d n.length e)]) (cs:=[i64 a,i64 b,zS d n.length e,zS none 0 0]) bs_47 rfl (by kernel_rfl)) (pO fun o f6 f7=>?_)));refine nB fun b8 f8=>?_
 refine aC ?_
 have b9:aD G K (aJ 9 K d e n::box o 47 [i64 a,i64 b,zS d n.length e,zS none 0 0]::box j 47 h::L) b8:=nC
 obtain ⟨a8,c0,hm⟩:=aB hm
 refine dQ call121 (lib_SortStr b9 c0) ?_
 rintro _ c1 ⟨rfl,c3,c4⟩
 have c6:aD G K (aJ 9 K d e a8::box o 47 [i64 a,i64 b,zS d a8.length e,zS none 0 0]::box j 47 h::L) c1:=by rw [←c3];exact c4
 refine aC ?_;obtain ⟨g,c7,hm⟩:=aB hm
 refine dQ call123 (lC c7 c6) ?_
 rintro _ f9 ⟨k,l,rfl,g0⟩
 refine aC ?_;refine nB fun g1 c8=>?_
 refine aC ?_;refine aI [8,9] (fun f w=>∃ r p q,aLY a b g r=some R/\aD G K (aJ 83 K p q r::aJ 9 K k l g::box o 47 [i64 a,i64 b,zS k g.length l,zS p r.length q]::box j 47 h::L) w) ?_ ?_
 ·rintro f g2 ⟨r,p,q,hm,c9⟩
  unfold aLY at hm
  refine aC ?_;obtain ⟨a9,d0,hm⟩:=aB hm
  refine dQ call125 (lib_SortEdge c9 d0) ?_
  rintro _ d1 ⟨rfl,d2,d3⟩
  have g3:aD G K (aJ 83 K p q a9::aJ 9 K k l g::box o 47 [i64 a,i64 b,zS k g.length l,zS p a9.length q]::box j 47 h::L) d1:=by rw [←d2];exact d3
  exact aF
 have g4:=aD.nil (α:=Edge) c8 83 K
 obtain ⟨g5,d4,ho⟩:=aB hm
 refine bJ [8,9,25,26] d4 (fun z b0 f w=>∃ J V,f 27=i64 b0/\aD G K (aJ 83 K J V z::aJ 9 K k l g::box o 47 [i64 a,i64 b,zS k g.length l,zS J z.length V]::box j 47 h::L) w) aF ?_
 ·rintro z b0 g6 f g7 hm hr ⟨J,V,g8,g9⟩
  unfold aIC at hm
  refine aC ?_
  rcases aG hm with ⟨d5,hm⟩|⟨d5,hm⟩
  ·refine aC ?_;refine bI (aC ?_)
   obtain ⟨m,d6,hm⟩:=aB hm
   refine aC ?_;obtain ⟨h0,h1,d7⟩:=aW.el (sz:=3) rfl h6 d6
   cases d7
   refine aC ?_;refine pO fun h2 h4 h5=>?_
   refine nB fun h7 d8=>?_;refine aC ?_
   obtain ⟨h8,d9,a0,e0,h9⟩:=aD.lendBp d8 .head
   obtain ⟨i0,u,e1,i1,e2⟩:=aD.lendBp e0 zt2
   refine aKG [(0,0),(1,0),(2,0),(3,0),(4,0),(5,0),(6,0),(7,0),(9,0),(10,0),(8,1),(11,0),(12,1),(13,1),(14,0),(15,2)] fun i2 c=>?_;refine aC ?_
   refine fM rfl (fun _ ⟨_,c⟩=>lD (t:=0) aFu c (a0.mono u) rfl rfl) (fM rfl (fun _ _=>eR (t':=2) fa_47_2 rfl rfl) (fM rfl (fun _ ⟨_,c⟩=>lD (t:=2) sc_25 c e1 rfl rfl) (fM rfl (fun _ _=>eR (t':=1) aTu rfl rfl) (fM rfl (fun _ ⟨_,c⟩=>lD (t:=1) sc_9 c (a0.mono u) rfl rfl) (fM rfl (fun _ _=>eR (t':=2) aTv rfl rfl) (fM rfl (fun _ ⟨_,c⟩=>lD (t:=2) aFu c (a0.mono u) rfl rfl) (lM rfl ?_)))))));obtain ⟨i3,i4,e3,e4,e5⟩:=aD.lendSp c (zL d9 u) zt1
   obtain ⟨a2,e6,hm⟩:=aB hm
   refine dQ call124 (lT e6 e4 e3) ?_
   rintro _ i5 ⟨rfl,e7⟩
   have e8:=e5 _ _ e7
   refine bQ (aM ⟨⟨_,e8⟩,?_⟩)
   refine fM rfl (fun _ _=>gW (vs:=[(0,i64 m.from_),(1,i64 a2),(2,i64 m.to_)]) (cs:=[i64 m.from_,i64 a2,i64 m.to_]) bs_83 rfl (by kernel_rfl)) (lM rfl (vJ ([⟨m.from_,a2,m.to_⟩]:List Edge) fun i6 i7 e9=>?_));refine bQ (aM ⟨⟨_,e9⟩,?_⟩)
   refine lM rfl ?_;obtain ⟨i8,i9,hm⟩:=aB hm
   refine st_p fun j0 j1 j2 b1=>?_;refine bQ (aM ⟨⟨_,b1⟩,?_⟩)
   refine aC ?_
   have j3:=e2 _ _ b1
   exact aF
  ·exact aF
theorem aCj {a:(List lN)} {R:(List aH)} (hm:aBb a=some R) (k:aD G K (L) w) (n:aW K a1 c2 a):
  Calls prog 79 ([zS a1 a.length c2]:List Value).toArray w (cN fun v w'=>∃ c d,v=zS c R.length d/\aD G K (aJ 9 K c d R::L) w'):=by
 refine cC func79 ?_;unfold aBb at hm
 refine aC ?_;refine aI [] (fun f w=>∃ b e g,aKk b=some R/\f 3=zS e b.length g/\aD G K (aJ 9 K e g b::L) w) aF ?_
 have o:=aD.nil (α:=aH) k 9 K
 obtain ⟨p,l,ho⟩:=aB hm
 exact bJ [6,7] l (fun h m f w=>∃ i j,f 3=zS i h.length j/\f 8=i64 m/\aD G K (aJ 9 K i j h::L) w) aF aF
theorem aKX {t:iQ} {k:Int} {R:Bool} (hm:sB t k=some R) (a:aD G K (L) w) (b:aW K a1 c2 t.L) (c:aW K a4 c5 t.E):
  Calls prog 128 ([zA (zCa t a1 c2 a4 c5),i64 k]:List Value).toArray w (cN fun v w'=>v=zB R/\aD G K (L) w'):=by
 exact aF
theorem aHN {t:iQ} {R:Bool} (hm:aBc t=some R) (z:aD G K (L) w) (J:G.lo=0) (i:aW K a1 c2 t.L) (j:aW K a4 c5 t.E):
  Calls prog 80 ([zA (zCa t a1 c2 a4 c5)]:List Value).toArray w (cN fun v w'=>v=zB R/\aD G K (L) w'):=by
 let a:=(zC t a1 c2 a4 c5)
 refine cC func80 ?_;unfold aBc at hm
 refine aC ?_;refine sL fun b V a0=>?_
 iterate 5 refine cV ?_
 refine bC [1] (fun f w=>∃ c,pB t c=some R/\f 30=zB c/\aD G K (box b 47 a::L) w) ?_ ?_
 ·rintro f a2 ⟨c,hm,a3,a5⟩
  unfold pB at hm
  refine aC ?_
  rcases aG hm with ⟨k,hm⟩|⟨k,hm⟩
  ·exact aF
  ·refine aC ?_;refine aI [1] (fun f w=>aBA t=some R/\aD G K (box b 47 a::L) w) ?_ ?_
   ·rintro f a6 ⟨hm,a7⟩
    unfold aBA at hm
    refine aC ?_;refine aI [] (fun f w=>aKl=some R/\aD G K (L) w) aF ?_
    obtain ⟨a8,l,ho⟩:=aB hm
    refine bL [1,65,66] l (fun d f w=>f 67=i64 d/\aD G K (box b 47 a::L) w) aF ?_
    ·rintro d m f a9 hm hr ⟨b0,b1⟩
     unfold wF at hm
     refine aC ?_
     rcases aG hm with ⟨n,hm⟩|⟨n,hm⟩
     ·refine aC ?_;refine bI (aC ?_)
      obtain ⟨b2,o,hm⟩:=aB hm
      refine aC ?_;obtain ⟨b3,b4,p⟩:=aW.el (sz:=3) rfl j o
      cases p
      refine aC ?_;refine pO fun b5 b6 b8=>?_
      refine aC ?_;refine nB fun b9 c0=>?_
      refine aC ?_;exact bC [1,65,66,67] (fun f w=>∃ g,pA d g=some m/\f 107=zB g/\aD G K (box b 47 a::L) w) aF aF
     ·exact aF
   obtain ⟨c1,q,ho⟩:=aB hm
   refine bL [1,32,33] q (fun e f w=>f 34=i64 e/\aD G K (box b 47 a::L) w) aF ?_
   ·rintro e r f c3 hm hr ⟨c4,c6⟩
    unfold wG at hm
    refine aC ?_
    rcases aG hm with ⟨u,hm⟩|⟨u,hm⟩
    ·refine aC ?_;refine bI (aC ?_)
     obtain ⟨c7,x,hm⟩:=aB hm
     refine aC ?_;obtain ⟨c8,c9,y⟩:=aW.el (sz:=1) rfl i x
     cases y
     iterate 6 refine cV ?_
     exact bC [1,32,33,34] (fun f w=>∃ h,sC e h=some r/\f 62=zB h/\aD G K (box b 47 a::L) w) aF aF
    ·exact aF
 exact aF
theorem eJ {s_ R:(List Int)} (hm:bG s_=some R) (r:aD G K (L) w) (a:aW K a1 c2 s_):
  Calls prog 84 ([zS a1 s_.length c2]:List Value).toArray w (cN fun v w'=>∃ b c,v=zS b R.length c/\aD G K (aJ 2 K b c R::L) w'):=by
 refine cC func84 ?_;unfold bG at hm
 iterate 9 refine cV ?_
 refine aL (R_isNil xU rfl rfl) (aC ?_)
 rcases nil_cases a with ⟨g,h,j⟩|k
 ·subst g;subst h;subst j
  refine W_cond_t rfl ?_
  replace hm:(some [])=some R:=hm
  exact aF
 ·refine W_cond_f (Eq.trans rfl (congrArg zB k)) (aC ?_);refine vJ ([]:List Int) fun t u l=>?_
  refine aC ?_;obtain ⟨m,n,hm⟩:=aB hm
  refine aRN (i:=0) xU underlying68 ez_2 rfl rfl l rfl (zR _) a n rfl rfl rfl rfl (fun d e o (p:aD G K (aJ 2 K d e m::L) o)=>(aC ?_));obtain rfl:=zI hm
  exact st_E results84 ⟨d,e,rfl,p⟩
theorem oM {p R:GPoint} (hm:lU p=some R) (c:aD G K (L) w) (d:aW K a1 c2 p.Values):
  Calls prog 92 ([zA #[i64 p.Definition,i64 p.Part,zS a1 p.Values.length c2]]:List Value).toArray w (cN fun v w'=>∃ a b,v=zA #[i64 R.Definition,i64 R.Part,zS a R.Values.length b]/\aD G K (aJ 2 K a b R.Values::L) w'):=by
 exact aF
theorem aAF {l R:(List GPoint)} (hm:oD l=some R) (hs:aD G K (L) w) (h3:aW K a1 c2 l):
  Calls prog 81 ([zS a1 l.length c2]:List Value).toArray w (cN fun v w'=>∃ r t m,v=zS r R.length t/\List.length m=List.length R/\aD G K (aJ 123 K r t (aO m R)::rows [2] m R::L) w'):=by
 refine cC func81 ?_;unfold oD at hm
 refine aC ?_;refine aI [] (fun f w=>∃ h u y n,aCi h=some R/\f 3=zS u h.length y/\List.length n=List.length h/\aD G K (aJ 123 K u y (aO n h)::rows [2] n h::L) w) aF ?_
 have a7:aD G K (aJ 123 K none 0 (aO ([]:List (Dp.Hd GPoint)) ([]:List GPoint))::rows [2] ([]:List (Dp.Hd GPoint)) ([]:List GPoint)::L) w:=aD.nil (α:=Cells _) (aD.rowsNil (α:=GPoint) (tys:=[2]) hs) 123 K
 obtain ⟨c1,a8,ho⟩:=aB hm
 refine bJ [6,7] a8 (fun e z f w=>∃ j k a,f 3=zS j e.length k/\f 8=i64 z/\List.length a=List.length e/\aD G K (aJ 123 K j k (aO a e)::rows [2] a e::L) w) ?_ ?_
 ·exact ⟨none,0,[],rfl,rfl,rfl,a7⟩
 ·rintro e z c3 f c4 hm hr ⟨j,k,a,c5,c7,J,c8⟩
  unfold jX at hm
  refine aC ?_
  rcases aG hm with ⟨c48,hm⟩|⟨c48,hm⟩
  ·refine aC ?_;refine bI (aC ?_)
   obtain ⟨g,a9,hm⟩:=aB hm
   refine aC ?_;obtain ⟨c9,d0,b0⟩:=aW.el (sz:=3) rfl h3 a9
   obtain ⟨o,p,rfl,b1⟩:=b0
   refine aC ?_;refine pO fun q d1 d2=>?_
   refine nB fun d3 b2=>?_;refine aC ?_
   obtain ⟨b,b3,hm⟩:=aB hm
   refine dQ call92 (oM b3 b2 b1) ?_
   rintro _ b4 ⟨c,d,rfl,b5⟩
   have b6:aD G K (rows [2] ([(c,d)]:List (Dp.Hd GPoint)) ([b]:List GPoint)::box q 123 [i64 g.Definition,i64 g.Part,zS o g.Values.length p]::aJ 123 K j k (aO a e)::rows [2] a e::L) b4:=aD.rowsOneS (tys:=[2]) (hd:=((c,d):Dp.Hd GPoint)) (x:=(b:GPoint)) b5
   refine fQ (Kt:=K) (xs:=aO ([(c,d)]:List (Dp.Hd GPoint)) ([b]:List GPoint)) (cs:=[i64 b.Definition,i64 b.Part,zS c b.Values.length d]) (vs:=[(0,zA #[i64 b.Definition,i64 b.Part,zS c b.Values.length d])]) jQ oT rfl rfl b6 rfl (by kernel_rfl) rfl rfl rfl ⟨rfl,trivial⟩ ?_
   intro b7 b8 (b9:aD G K (aJ 123 K b7 1 (aO ([(c,d)]:List (Dp.Hd GPoint)) ([b]:List GPoint))::rows [2] ([(c,d)]:List (Dp.Hd GPoint)) ([b]:List GPoint)::box q 123 [i64 g.Definition,i64 g.Part,zS o g.Values.length p]::aJ 123 K j k (aO a e)::rows [2] a e::L) b8)
   obtain ⟨V,a0,hm⟩:=aB hm
   refine aJv (i:=1) (tys:=[2]) (hds:=a) (hds2:=([(c,d)]:List (Dp.Hd GPoint))) jQ underlying52 oT rfl rfl b9 J rfl rfl rfl a0 rfl rfl rfl rfl ?_
   intro a2 a3 c0 (d4:aD G K (aJ 123 K a2 a3 (aO (a++([(c,d)]:List (Dp.Hd GPoint))) V)::rows [2] (a++([(c,d)]:List (Dp.Hd GPoint))) V::box q 123 [i64 g.Definition,i64 g.Part,zS o g.Values.length p]::L) c0)
   refine aC ?_;exact ⟨_,(zI hm).symm,bO,a2,a3,(a++([(c,d)]:List (Dp.Hd GPoint))),rfl,rfl,(aGB J rfl a0),nC⟩
  ·exact aF
theorem aBh {a R:(List GPoint)} (hm:yH a=some R) (h:aD G K (L) w) (i:aW K a1 c2 a):
  Calls prog 45 ([zS a1 a.length c2]:List Value).toArray w (cN fun v w'=>∃ e g b,v=zS e R.length g/\List.length b=List.length R/\aD G K (aJ 123 K e g (aO b R)::rows [2] b R::L) w'):=by
 refine cC func45 ?_;unfold yH at hm
 refine aC ?_;obtain ⟨x,j,hm⟩:=aB hm
 refine dQ call81 (aAF j h i) ?_
 rintro _ y ⟨c,d,z,rfl,k,l⟩
 refine aC ?_;obtain ⟨m,o,hm⟩:=aB hm
 refine dQ call82 (lib_SortPts l k o) ?_
 rintro _ J ⟨p,rfl,q,r,t⟩
 iterate 4 refine cV ?_
 refine kH (v:=zS c m.length d) (Eq.trans rfl (congrArg (fun n=>zS c n d) q)) (aC ?_);obtain rfl:=zI hm
 exact st_E results45 ⟨c,d,p,rfl,r,t⟩
theorem aCw {s_:aR} {R:(List GPoint)} (hm:tV s_=some R) (hs:aD G K (L) w) (h3:aW K a1 c2 s_.Definitions) (h6:aW K a4 c5 s_.Components) (h9:aW K a7 c8 s_.Meetings) (d1:aW K a10 c11 s_.Allowed) (d2:aW K a13 c14 s_.Hidden):
  Calls prog 46 ([zA #[zS a1 s_.Definitions.length c2,zS a4 s_.Components.length c5,zS a7 s_.Meetings.length c8,zS a10 s_.Allowed.length c11,zS a13 s_.Hidden.length c14]]:List Value).toArray w (cN fun v w'=>∃ o p l,v=zS o R.length p/\List.length l=List.length R/\aD G K (aJ 123 K o p (aO l R)::rows [2] l R::L) w'):=by
 refine cC func46 ?_;unfold tV at hm
 refine aC ?_;refine sL fun a6 a8 a9=>?_
 refine aC ?_;refine aI [] (fun f w=>∃ h q r m,aEX h=some R/\f 3=zS q h.length r/\List.length m=List.length h/\aD G K (aJ 123 K q r (aO m h)::rows [2] m h::L) w) aF ?_
 have d3:aD G K (aJ 123 K none 0 (aO ([]:List (Dp.Hd GPoint)) ([]:List GPoint))::rows [2] ([]:List (Dp.Hd GPoint)) ([]:List GPoint)::box a6 35 [zS a1 s_.Definitions.length c2,zS a4 s_.Components.length c5,zS a7 s_.Meetings.length c8,zS a10 s_.Allowed.length c11,zS a13 s_.Hidden.length c14]::L) a8:=aD.nil (α:=Cells _) (aD.rowsNil (α:=GPoint) (tys:=[2]) a9) 123 K
 obtain ⟨d4,b0,ho⟩:=aB hm
 refine bJ [7,8] b0 (fun d t f w=>∃ j k c,f 3=zS j d.length k/\f 9=i64 t/\List.length c=List.length d/\aD G K (aJ 123 K j k (aO c d)::rows [2] c d::L) w) ?_ ?_
 ·exact ⟨none,0,[],rfl,rfl,rfl,nC⟩
 ·rintro d t d5 f d6 hm hr ⟨j,k,c,d7,d8,u,d9⟩
  unfold oE at hm
  refine aC ?_
  rcases aG hm with ⟨b1,hm⟩|⟨b1,hm⟩
  ·refine aC ?_;refine bI (aC ?_)
   obtain ⟨e,b2,hm⟩:=aB hm
   refine aC ?_;obtain ⟨e0,e1,b3⟩:=aW.el (sz:=2) rfl h6 b2
   obtain ⟨e2,e3,rfl,b4⟩:=b3
   refine aC ?_;refine pO fun e4 e5 e6=>?_
   refine nB fun e7 b5=>?_;refine aC ?_
   obtain ⟨n,b6,e8,e9,b7⟩:=aD.lendBp b5 .head
   refine aKG [(0,0),(1,0),(2,0),(3,0),(4,0),(5,1),(6,0),(7,1),(8,1),(9,0)] fun f0 b8=>?_;refine aC ?_
   refine lM rfl ?_;obtain ⟨g,b9,hm⟩:=aB hm
   refine dQ call84 (eJ b9 b8 (b4.mono b6)) ?_
   rintro _ c0 ⟨a,b,rfl,y⟩
   refine bQ (aM ⟨⟨_,y⟩,?_⟩)
   refine fM rfl (fun _ _=>gW (vs:=[(0,i64 e.Definition),(1,i64 0),(2,zS a g.length b)]) (cs:=[i64 e.Definition,i64 0,zS a g.length b]) aIk rfl (by kernel_rfl)) (lM rfl ?_)
   have c1:aD G n (rows [2] ([(a,b)]:List (Dp.Hd GPoint)) ([⟨e.Definition,0,g⟩]:List GPoint)::aJ 123 K j k (aO c d)::rows [2] c d::L) c0:=aD.rowsOneS (tys:=[2]) (hd:=((a,b):Dp.Hd GPoint)) (x:=(⟨e.Definition,0,g⟩:GPoint)) y
   refine fQ (Kt:=K) (xs:=aO ([(a,b)]:List (Dp.Hd GPoint)) ([⟨e.Definition,0,g⟩]:List GPoint)) (cs:=[i64 e.Definition,i64 0,zS a g.length b]) (vs:=[(0,zA #[i64 e.Definition,i64 0,zS a g.length b])]) jQ oT rfl rfl c1 rfl (by kernel_rfl) rfl rfl rfl ⟨rfl,trivial⟩ ?_
   intro c3 c4 (z:aD G n (aJ 123 K c3 1 (aO ([(a,b)]:List (Dp.Hd GPoint)) ([⟨e.Definition,0,g⟩]:List GPoint))::rows [2] ([(a,b)]:List (Dp.Hd GPoint)) ([⟨e.Definition,0,g⟩]:List GPoint)::aJ 123 K j k (aO c d)::rows [2] c d::L) c4)
   refine bQ (aM ⟨⟨_,z⟩,?_⟩)
   refine lM rfl ?_;obtain ⟨J,V,hm⟩:=aB hm
   refine aJv (i:=0) (tys:=[2]) (hds:=c) (hds2:=([(a,b)]:List (Dp.Hd GPoint))) jQ underlying52 oT rfl rfl z u rfl rfl rfl V rfl rfl rfl rfl ?_
   intro a0 a2 c6 (a3:aD G n (aJ 123 K a0 a2 (aO (c++([(a,b)]:List (Dp.Hd GPoint))) J)::rows [2] (c++([(a,b)]:List (Dp.Hd GPoint))) J::L) c6)
   refine bQ (aM ⟨⟨_,a3⟩,?_⟩)
   refine aC ?_;refine yX ?_
   have f1:=b7 _ _ a3
   refine aC ?_;exact ⟨_,(zI hm).symm,bO,a0,a2,(c++([(a,b)]:List (Dp.Hd GPoint))),rfl,rfl,(aGB u rfl V),nC⟩
  ·exact aF
theorem aGj {n:Int} {R:Bool} (hm:aID n=some R) (a:aD G K (L) w):
  Calls prog 300 ([i64 n]:List Value).toArray w (cN fun v w'=>v=zB R/\aD G K (L) w'):=by
 exact aF
theorem rW {s_:(List Int)} {R:Int} (hm:fP s_=some R) (k:aD G K (L) w) (c:aW K a1 c2 s_):
  Calls prog 286 ([zS a1 s_.length c2,Value.func (.func 300) #[] #[]]:List Value).toArray w (cN fun v w'=>v=i64 R/\aD G K (L) w'):=by
 refine cC func286 ?_;unfold fP at hm
 refine aC ?_;refine aI [] (fun f w=>kP=some R/\aD G K (L) w) aF ?_
 obtain ⟨l,d,ho⟩:=aB hm
 refine bL [0,1,7] d (fun a f w=>f 8=i64 a/\aD G K (L) w) aF ?_
 ·rintro a m f n hm hr ⟨o,e⟩
  unfold dO at hm
  refine aC ?_
  rcases aG hm with ⟨g,hm⟩|⟨g,hm⟩
  ·refine aC ?_;refine bI (aC ?_)
   obtain ⟨b,h,hm⟩:=aB hm
   refine aC ?_;obtain ⟨p,q,i⟩:=aW.el (sz:=1) rfl c h
   cases i
   refine aC ?_;obtain ⟨r,j,hm⟩:=aB hm
   exact lL (vs:=[i64 b]) (caps:=[]) (us:=[i64 b]) rfl call300 rfl rfl (aGj j e) aF
  ·exact aF
theorem qG {s_:(List Int)} {R:Bool} (hm:eQ s_=some R) (a:aD G K (L) w) (b:aW K a1 c2 s_):
  Calls prog 235 ([zS a1 s_.length c2,Value.func (.func 300) #[] #[]]:List Value).toArray w (cN fun v w'=>v=zB R/\aD G K (L) w'):=by
 exact aF
theorem aQF {a:(List Int)} {R:Bool} (hm:aIF a=some R) (c:aD G K (L) w) (d:aW K a1 c2 a):
  Calls prog 260 ([zS a1 a.length c2]:List Value).toArray w (cN fun v w'=>v=zB R/\aD G K (L) w'):=by
 refine cC func260 ?_;unfold aIF at hm
 iterate 6 refine cV ?_
 exact bC [] (fun f w=>∃ b,aIE b=some R/\f 2=zB b/\aD G K (L) w) aF aF
theorem aOw {a:(List Int)} {R:aH} (hm:aGY a=some R) (b:aD G K (L) w) (c:G.lo=0) (d:aW K a1 c2 a):
  Calls prog 195 ([zS a1 a.length c2]:List Value).toArray w (cN fun v w'=>v=str R/\aD G K (L) w'):=by
 exact aF
theorem aNo {p:GPoint} {R:aH} (hm:aIG p=some R) (a:aD G K (L) w) (b:G.lo=0) (c:aW K a1 c2 p.Values):
  Calls prog 136 ([zA #[i64 p.Definition,i64 p.Part,zS a1 p.Values.length c2]]:List Value).toArray w (cN fun v w'=>v=str R/\aD G K (L) w'):=by
 exact aF
theorem aHO {p:GPoint} {R:aH} (hm:aEa p=some R) (a:aD G K (L) w) (b:G.lo=0) (c:aW K a1 c2 p.Values):
  Calls prog 85 ([zA #[i64 p.Definition,i64 p.Part,zS a1 p.Values.length c2]]:List Value).toArray w (cN fun v w'=>v=str R/\aD G K (L) w'):=by
 exact aF
theorem aCk {a:(List GPoint)} {R:aH} (hm:aBd a=some R) (i:aD G K (L) w) (l:G.lo=0) (m:aW K a1 c2 a):
  Calls prog 47 ([zS a1 a.length c2]:List Value).toArray w (cN fun v w'=>v=str R/\aD G K (L) w'):=by
 refine cC func47 ?_;unfold aBd at hm
 refine aC ?_;refine aI [] (fun f w=>∃ b c d,aFC b=some R/\f 3=zS c b.length d/\aD G K (aJ 9 K c d b::L) w) aF ?_
 have n:=aD.nil (α:=aH) i 9 K
 obtain ⟨o,j,ho⟩:=aB hm
 exact bJ [6,7] j (fun e k f w=>∃ g h,f 3=zS g e.length h/\f 8=i64 k/\aD G K (aJ 9 K g h e::L) w) aF aF
theorem aFi {rec_:(List aP)->Option ((Tr aP) × (List aP))} (ih:∀ {G:mL} {K:Hp} {L:List eU} {w:World} {e:(List aP)} {a1:Option Addr} {c2:Nat} {R:((Tr aP) × (List aP))} (hm:rec_ e=some R) (hs:aD G K (L) w) (r:aW K a1 c2 e),
  Calls prog 301 ([zS a1 e.length c2]:List Value).toArray w (cN fun v w'=>∃ b n o p,v=zT #[fL n 0,zS o R.2.length p]/\Hp.le K b/\trd b R.1 n/\aW b o p R.2/\aD G b (L) w'))
  {G:mL} {K:Hp} {L:List eU} {w:World} {e:(List aP)} {a1:Option Addr} {c2:Nat} {R:((Tr aP) × (List aP))} (hm:lV rec_ e=some R) (hs:aD G K (L) w) (r:aW K a1 c2 e):
  Calls prog 301 ([zS a1 e.length c2]:List Value).toArray w (cN fun v w'=>∃ b n o p,v=zT #[fL n 0,zS o R.2.length p]/\Hp.le K b/\trd b R.1 n/\aW b o p R.2/\aD G b (L) w'):=by
 refine cC func301 ?_;unfold lV at hm
 refine aC ?_;obtain ⟨a,q5,hm⟩:=aB hm
 refine aC ?_;obtain ⟨f2,f3,c0⟩:=aW.el (sz:=2) rfl r q5
 cases c0
 iterate 1 refine cV ?_
 refine aL (gW (vs:=[(0,zA #[i64 a.Kind,i64 a.Value])]) (cs:=[i64 a.Kind,i64 a.Value,zS none 0 0]) bs_361 rfl (by kernel_rfl)) (sL fun c f4 c1=>?_);refine aC ?_
 obtain ⟨f5,a7,hm⟩:=aB hm
 obtain ⟨f6,f7,a8⟩:=Cut.ex 2 a1 c2 1
 have f8:=aW.cut' r a7 a8
 refine aL (aKE aSb r.room a8 rfl rfl rfl a7) (aC ?_);obtain ⟨f9,c3,hm⟩:=aB hm
 refine dQ call320 (aBW c3 c1) ?_
 rintro _ g0 ⟨rfl,c4⟩
 refine aC ?_;refine aI [4] (fun f w=>∃ q g t u x y z,Hp.le K q/\aFD a g t=some R/\f 5=zS y t.length z/\aW q y z t/\aD G q (aJ 323 q u x g::box c 361 [i64 a.Kind,i64 a.Value,zS u g.length x]::L) w) ?_ ?_
 ·rintro f a9 ⟨q,g,t,u,x,y,z,c5,hm,g1,c6,c7⟩
  unfold aFD at hm
  refine aC ?_;obtain ⟨c8,b0,c9,J⟩:=aD.giveSp c7 (zR _) .head
  replace J:aD G c8 (box c 361 [i64 a.Kind,i64 a.Value,zS u g.length x]::L) a9:=J
  obtain ⟨V,a0,d0,a2,_⟩:=aD.lendBp J .head
  replace a2:aD G V (L) a9:=a2
  have d1:trd V (Tr.mk a g) (some ⟨c,0,none⟩):=trd_mk d0 (c9.mono a0)
  obtain rfl:=zI hm
  exact aDC (aOQ results301 rfl rfl ⟨V,(some ⟨c,0,none⟩),y,z,(tp2 (elp_b rfl) rfl),(zL (zL c5 b0) a0),d1,(c6.mono (zL b0 a0)),a2⟩)
 have g2:=aD.nil (α:=(Tr aP)) c4 323 K
 obtain ⟨g3,d3,ho⟩:=aB hm
 refine nO [4,17] d3 (fun j a3 b1 f w=>∃ k l m a4 a5,Hp.le K k/\f 5=zS a4 a3.length a5/\f 18=i64 b1/\aW k a4 a5 a3/\aD G k (aJ 323 k l m j::box c 361 [i64 a.Kind,i64 a.Value,zS l j.length m]::L) w) aF ?_
 ·rintro j a3 b1 g4 f g5 hm hr ⟨k,l,m,a4,a5,d4,g6,g7,d5,d6⟩
  unfold wH at hm
  refine aC ?_
  rcases aG hm with ⟨d7,hm⟩|⟨d7,hm⟩
  ·refine aC ?_;refine bI (aC ?_)
   obtain ⟨b2,d8,hm⟩:=aB hm
   refine dQ call301 (ih d8 d6 d5) ?_
   rintro _ g8 ⟨d,a6,d9,e0,rfl,b3,e1,e2,e3⟩
   refine aC ?_;refine fQ (Kt:=d) (xs:=([b2.1]:List (Tr aP))) (cs:=[fL a6 0]) (vs:=[(0,fL a6 0)]) sl_359 ez_323 rfl rfl e3 rfl (by kernel_rfl) rfl rfl rfl ⟨⟨a6,rfl,e1⟩,trivial⟩ (fun e5 e6 (e7:aD G d (aJ 323 d e5 1 ([b2.1]:List (Tr aP))::aJ 323 k l m j::box c 361 [i64 a.Kind,i64 a.Value,zS l j.length m]::L) e6)=>?_)
   obtain ⟨e8,e9,hm⟩:=aB hm
   refine sO (i:=0) d sl_359 underlying359 ez_323 rfl rfl e7 rfl b3 (zR _) e9 rfl rfl rfl rfl (fun _ _ _ h=>El.one h) (fun b4 b5 f0 (g9:aD G d (aJ 323 d b4 b5 e8::box c 361 [i64 a.Kind,i64 a.Value,zS l j.length m]::L) f0)=>(aC ?_));refine nB fun h0 f1=>?_
   refine aC ?_;exact ⟨_,(zI hm).symm,bO,d,b4,b5,d9,e0,(zL d4 b3),rfl,rfl,e2,f1⟩
  ·exact aF
theorem aFj (n:Nat):∀ {G:mL} {K:Hp} {L:List eU} {w:World} {e:(List aP)} {a1:Option Addr} {c2:Nat} {R:((Tr aP) × (List aP))} (hm:lW n e=some R) (a:aD G K (L) w) (b:aW K a1 c2 e),
  Calls prog 301 ([zS a1 e.length c2]:List Value).toArray w (cN fun v w'=>∃ c d g h,v=zT #[fL d 0,zS g R.2.length h]/\Hp.le K c/\trd c R.1 d/\aW c g h R.2/\aD G c (L) w'):=by
 induction n with
 |zero=>
  intro G K L w e a1 c2 R hm a b
  unfold lW at hm
  cases hm
 |succ n ih=>
  intro G K L w e a1 c2 R hm a b
  exact aFi (rec_:=lW n) (fun hm a b=>ih hm a b) hm a b
theorem aOx {e:(List aP)} {R:((Tr aP) × (List aP))} (hm:aKO e=some R) (hs:aD G K (L) w) (h3:aW K a1 c2 e):
  Calls prog 301 ([zS a1 e.length c2]:List Value).toArray w (cN fun v w'=>∃ K' ra1 ra2 rc2,v=zT #[fL ra1 0,zS ra2 R.2.length rc2]/\Hp.le K K'/\trd K' R.1 ra1/\aW K' ra2 rc2 R.2/\aD G K' (L) w'):=aFj 100000 hm hs h3
theorem aTC {e:(List aP)} {R:(Tr aP)} (hm:i_tree e=some R) (c:aD G K (L) w) (d:aW K a1 c2 e):
  Calls prog 264 ([zS a1 e.length c2]:List Value).toArray w (cN fun v w'=>∃ a b,v=fL b 0/\Hp.le K a/\trd a R b/\aD G a (L) w'):=by
 exact aF
theorem aSp {is:Bool} {R:Int} (hm:aAu is=some R) (a:aD G K (L) w):
  Calls prog 302 ([zB is]:List Value).toArray w (cN fun v w'=>v=i64 R/\aD G K (L) w'):=by
 exact aF
theorem aPG {op a b R:Int} (hm:aJH op a b=some R) (n:aD G K (L) w):
  Calls prog 303 ([i64 op,i64 a,i64 b]:List Value).toArray w (cN fun v w'=>v=i64 R/\aD G K (L) w'):=by
 refine cC func303 ?_;unfold aJH at hm
 refine aC ?_;refine bI (aC ?_)
 rcases aG hm with ⟨e,hm⟩|⟨e,hm⟩
 ·exact aF
 ·refine aC ?_
  rcases aG hm with ⟨g,hm⟩|⟨g,hm⟩
  ·exact aF
  ·refine aC ?_
   rcases aG hm with ⟨h,hm⟩|⟨h,hm⟩
   ·exact aF
   ·refine aC ?_
    rcases aG hm with ⟨i,hm⟩|⟨i,hm⟩
    ·exact aF
    ·refine aC ?_
     rcases aG hm with ⟨j,hm⟩|⟨j,hm⟩
     ·exact aF
     ·refine aC ?_
      rcases aG hm with ⟨k,hm⟩|⟨k,hm⟩
      ·exact aF
      ·refine aC ?_
       rcases aG hm with ⟨l,hm⟩|⟨l,hm⟩
       ·exact aF
       ·refine aC ?_
        rcases aG hm with ⟨m,hm⟩|⟨m,hm⟩
        ·iterate 2 refine cV ?_
         exact bC [] (fun f w=>∃ c,aGZ c=some R/\f 6=i64 c/\aD G K (L) w) aF aF
        ·iterate 5 refine cV ?_
         exact bC [] (fun f w=>∃ d,aHa d=some R/\f 6=i64 d/\aD G K (L) w) aF aF
theorem aCx {rec_:(Tr aP)->(List Int)->Option Int} (d:∀ {G:mL} {K:Hp} {L:List eU} {w:World} {x_:(Tr aP)} {a1:Option Addr} {a:(List Int)} {a3:Option Addr} {c4:Nat} {R:Int} (hm:rec_ x_ a=some R) (b:aD G K (L) w) (g:trd K x_ a1) (c:aW K a3 c4 a),
  Calls prog 265 ([fL a1 0,zS a3 a.length c4]:List Value).toArray w (cN fun v w'=>v=i64 R/\aD G K (L) w'))
  {G:mL} {K:Hp} {L:List eU} {w:World} {x_:(Tr aP)} {a1:Option Addr} {a:(List Int)} {a3:Option Addr} {c4:Nat} {R:Int} (hm:jJ rec_ x_ a=some R) (b:aD G K (L) w) (g:trd K x_ a1) (c:aW K a3 c4 a):
  Calls prog 265 ([fL a1 0,zS a3 a.length c4]:List Value).toArray w (cN fun v w'=>v=i64 R/\aD G K (L) w'):=by
 refine cC func265 ?_;unfold jJ at hm
 refine aC ?_;obtain ⟨i,j,h,e⟩:=trd.el g
 replace h:eM K a1 0 [i64 x_.val.Kind,i64 x_.val.Value,zS i x_.kids.length j]:=h
 refine aC ?_;refine bI (aC ?_)
 rcases aG hm with ⟨k,hm⟩|⟨k,hm⟩
 ·exact aF
 ·refine aC ?_
  rcases aG hm with ⟨l,hm⟩|⟨l,hm⟩
  ·exact aF
  ·refine aC ?_
   rcases aG hm with ⟨m,hm⟩|⟨m,hm⟩
   ·refine aC ?_;obtain ⟨a7,n,hm⟩:=aB hm
    refine aC ?_;obtain ⟨a8,a9,o⟩:=aW.el (sz:=1) rfl e n
    obtain ⟨b0,rfl,p⟩:=o
    refine aC ?_;obtain ⟨b1,q,hm⟩:=aB hm
    exact dQ call265 (d q b p c) aF
   ·refine aC ?_;refine aIi ?_
    refine aC ?_;obtain ⟨b2,r,hm⟩:=aB hm
    refine aC ?_;obtain ⟨b3,b4,t⟩:=aW.el (sz:=1) rfl e r
    obtain ⟨u,rfl,x⟩:=t
    refine aC ?_;obtain ⟨y,z,hm⟩:=aB hm
    refine qW (vs:=[fL u 0,zS a3 a.length c4]) (v:=i64 y) call265 rfl (fun _ b=>(d z b x c)) (aC ?_);obtain ⟨b5,J,hm⟩:=aB hm
    refine aC ?_;obtain ⟨b6,b7,V⟩:=aW.el (sz:=1) rfl e J
    obtain ⟨a0,rfl,a2⟩:=V
    refine aC ?_;obtain ⟨a4,a5,hm⟩:=aB hm
    exact qW (vs:=[fL a0 0,zS a3 a.length c4]) (v:=i64 a4) call265 rfl (fun _ b=>(d a5 b a2 c)) aF
theorem aCy (n:Nat):∀ {G:mL} {K:Hp} {L:List eU} {w:World} {x_:(Tr aP)} {a1:Option Addr} {a:(List Int)} {a3:Option Addr} {c4:Nat} {R:Int} (hm:jK n x_ a=some R) (b:aD G K (L) w) (c:trd K x_ a1) (d:aW K a3 c4 a),
  Calls prog 265 ([fL a1 0,zS a3 a.length c4]:List Value).toArray w (cN fun v w'=>v=i64 R/\aD G K (L) w'):=by
 induction n with
 |zero=>
  intro G K L w x_ a1 a a3 c4 R hm b c d
  unfold jK at hm
  cases hm
 |succ n ih=>
  intro G K L w x_ a1 a a3 c4 R hm b c d
  exact aCx (rec_:=jK n) (fun hm b c d=>ih hm b c d) hm b c d
theorem aMn {x_:(Tr aP)} {values:(List Int)} {R:Int} (hm:aHb x_ values=some R) (hs:aD G K (L) w) (h2:trd K x_ a1) (h5:aW K a3 c4 values):
  Calls prog 265 ([fL a1 0,zS a3 values.length c4]:List Value).toArray w (cN fun v w'=>v=i64 R/\aD G K (L) w'):=aCy 100000 hm hs h2 h5
theorem aHP {e:(List aP)} {a:(List Int)} {R:Int} (hm:aBe e a=some R) (b:aD G K (L) w) (c:aW K a1 c2 e) (d:aW K a4 c5 a):
  Calls prog 201 ([zS a1 e.length c2,zS a4 a.length c5]:List Value).toArray w (cN fun v w'=>v=i64 R/\aD G K (L) w'):=by
 exact aF
theorem aEq {a:(List (List aP))} {b R:(List Int)} (hm:sD a b=some R) (l:aD G K (L) w) (o:aW K a1 c2 a) (p:aW K a4 c5 b):
  Calls prog 198 ([zS a1 a.length c2,zS a4 b.length c5]:List Value).toArray w (cN fun v w'=>∃ d e,v=zS d R.length e/\aD G K (aJ 2 K d e R::L) w'):=by
 refine cC func198 ?_;unfold sD at hm
 refine aC ?_;refine aI [] (fun f w=>∃ c g h,aGc c=some R/\f 5=zS g c.length h/\aD G K (aJ 2 K g h c::L) w) aF ?_
 have q:=aD.nil (α:=Int) l 2 K
 obtain ⟨r,m,ho⟩:=aB hm
 exact bJ [1,8,9] m (fun i n f w=>∃ j k,f 5=zS j i.length k/\f 10=i64 n/\aD G K (aJ 2 K j k i::L) w) aF aF
theorem aHh {c:(List Definition)} {b:(List bF)} {e:(List (aH × Bool))} {a:Nat} {s_:bF} {R:((List bF) × (List (aH × Bool)))} (hm:iK c b e s_=some R) (hs:aD G K (aJ 155 Kf a5 c6 b::jO a e::box b1 217 [zS a2 c.length c3,zS a5 b.length c6,Value.map (some a)]::L) w) (y:G.lo=0) (J:Hp.le Kf K) (h4:aW K a2 c3 c) (m:aW Kf a8 c9 s_.Next.Values):
  Calls prog 199 ([Value.pointer (some ⟨b1,0,none⟩),zA #[str s_.B,i64 s_.Next.Definition,i64 s_.Next.Part,zS a8 s_.Next.Values.length c9]]:List Value).toArray w (cN fun v w'=>∃ n o,v=zT #[]/\aD G K (aJ 155 Kf n o R.1::jO a R.2::box b1 217 [zS a2 c.length c3,zS n R.1.length o,Value.map (some a)]::L) w'):=by
 let g:=[str s_.B,i64 s_.Next.Definition,i64 s_.Next.Part,zS a8 s_.Next.Values.length c9]
 refine cC func199 ?_;unfold iK at hm
 refine aC ?_;refine sL fun V c7 d=>?_
 refine aC ?_;refine aIi ?_
 refine aC ?_;obtain ⟨c8,a0,hm⟩:=aB hm
 refine rO (fun _ d=>aLr rfl rfl a0) (aC ?_);obtain ⟨a1,a3,hm⟩:=aB hm
 refine qW (vs:=[zA #[i64 s_.Next.Definition,i64 s_.Next.Part,zS a8 s_.Next.Values.length c9]]) (v:=str a1) call85 rfl (fun _ d=>(aHO a3 d y (m.mono J))) ?_;obtain ⟨p,a4,hm⟩:=aB hm
 refine rO (fun _ d=>aLr rfl rfl a4) (aC ?_);refine sJ (fun d0 q=>(aC ?_))
 refine aL (R_look1 (kv:=e) (k:=p) (z:=(false:Bool)) runUnderlying147 ko_9 zeroValue4 q (i:=2) rfl rfl rfl) (aC ?_)
 rcases aG hm with ⟨a6,hm⟩|⟨a6,hm⟩
 ·refine aC ?_;obtain ⟨j,a7,hm⟩:=aB hm
  refine aPe (i:=2) (k:=p) (v:=true) runUnderlying147 ko_9 q rfl rfl rfl rfl a7 (fun a9 (b0:aD G K (box V 155 g::aJ 155 Kf a5 c6 b::jO a j::box b1 217 [zS a2 c.length c3,zS a5 b.length c6,Value.map (some a)]::L) a9)=>(aC ?_));obtain ⟨d1,d2,b2,b3,d3⟩:=aD.lendBp b0 .head
  obtain ⟨r,b4,d4,d5,b5⟩:=aD.lendBp b3 zt2
  refine aKG [(0,0),(1,0),(2,0),(3,0),(4,0),(5,1),(6,1),(7,1),(8,2),(9,2),(10,2)] fun d6 l=>?_;refine aC ?_
  refine lM rfl (aL (pL (t:=0) (vs:=g) aSd l (b2.mono b4) rfl rfl rfl) (bQ (aM ⟨⟨_,l⟩,?_⟩)))
  refine lM rfl (fQ (Kt:=Kf) (xs:=([s_]:List bF)) (cs:=g) (vs:=[(0,zA #[str s_.B,i64 s_.Next.Definition,i64 s_.Next.Part,zS a8 s_.Next.Values.length c9])]) aAQ aNd rfl rfl l rfl (by kernel_rfl) rfl rfl rfl ⟨⟨a8,c9,rfl,m⟩,trivial⟩ (fun b6 b7 (u:aD G r (aJ 155 Kf b6 1 ([s_]:List bF)::aJ 155 Kf a5 c6 b::jO a j::L) b7)=>(bQ (aM ⟨⟨_,u⟩,?_⟩))))
  refine lM rfl ?_;obtain ⟨b8,b9,hm⟩:=aB hm
  refine sO (i:=0) Kf aAQ underlying151 aNd rfl rfl u rfl (zR _) (zR _) b9 rfl rfl rfl rfl (fun _ _ _ h=>El.one h) (fun c0 c1 c2 (x:aD G r (aJ 155 Kf c0 c1 b8::jO a j::L) c2)=>(bQ (aM ⟨⟨_,x⟩,?_⟩)))
  have d7:=b5 _ _ x
  exact aF
 ·exact aF
end Gv
namespace Gv
open Gv.Hp renaming le_refl→zR
open Go.Value renaming slice→zS,bool→zB,pointer→zP,agg→zA,tuple→zT,map→zM
open Option.some renaming inj→zI
open Gv.Hp renaming le_trans→zL
open Go Go.Proofs Go.Proofs.Tryz
set_option maxRecDepth 20000
set_option maxHeartbeats 40000000
variable {G:mL} {K Kf:Hp} {L:List eU} {w:World} {b1 c3 c6 c9 c2 c5 c8 c11 c14 c12 c15 c18 c21 c26 c29 c17:Nat} {a2 a5 a8 a1 a4 a7 a10 a13 a11 a14 a17 a20 a25 a28 a16:Option Addr}
theorem wL {rec_:(List Definition)->(List bF)->(List (aH × Bool))->Int->Int->(List Int)->Option ((List bF) × (List (aH × Bool)))} (ih:∀ {G:mL} {K:Hp} {L:List eU} {w:World} {Kf:Hp} {b1:Nat} {g:(List Definition)} {a2:Option Addr} {c3:Nat} {n:(List bF)} {a5:Option Addr} {c6:Nat} {d:(List (aH × Bool))} {c:Nat} {k:Int} {part:Int} {e:(List Int)} {a8:Option Addr} {c9:Nat} {R:((List bF) × (List (aH × Bool)))} (hm:rec_ g n d k part e=some R) (hs:aD G K (aJ 155 Kf a5 c6 n::jO c d::box b1 217 [zS a2 g.length c3,zS a5 n.length c6,zM (some c)]::L) w) (hG:G.lo=0) (b6:Hp.le Kf K) (h4:aW K a2 c3 g) (a3:aW K a8 c9 e),
  Calls prog 140 ([zP (some ⟨b1,0,none⟩),i64 k,i64 part,zS a8 e.length c9]:List Value).toArray w (cN fun v w'=>∃ K' c4 c5,v=zT #[]/\Hp.le K K'/\aD G K' (aJ 155 K' c4 c5 R.1::jO c R.2::box b1 217 [zS a2 g.length c3,zS c4 R.1.length c5,zM (some c)]::L) w'))
  {G:mL} {K:Hp} {L:List eU} {w:World} {Kf:Hp} {b1:Nat} {g:(List Definition)} {a2:Option Addr} {c3:Nat} {n:(List bF)} {a5:Option Addr} {c6:Nat} {d:(List (aH × Bool))} {c:Nat} {k:Int} {part:Int} {e:(List Int)} {a8:Option Addr} {c9:Nat} {R:((List bF) × (List (aH × Bool)))} (hm:bW rec_ g n d k part e=some R) (hs:aD G K (aJ 155 Kf a5 c6 n::jO c d::box b1 217 [zS a2 g.length c3,zS a5 n.length c6,zM (some c)]::L) w) (hG:G.lo=0) (b6:Hp.le Kf K) (h4:aW K a2 c3 g) (a3:aW K a8 c9 e):
  Calls prog 140 ([zP (some ⟨b1,0,none⟩),i64 k,i64 part,zS a8 e.length c9]:List Value).toArray w (cN fun v w'=>∃ K' c4 c5,v=zT #[]/\Hp.le K K'/\aD G K' (aJ 155 K' c4 c5 R.1::jO c R.2::box b1 217 [zS a2 g.length c3,zS c4 R.1.length c5,zM (some c)]::L) w'):=by
 let o:=[zS a2 g.length c3,zS a5 n.length c6,zM (some c)]
 let g5:=[zP (some ⟨b1,0,none⟩),i64 k,i64 (wr (part+1)),zS a8 e.length c9]
 let b9:=aJ 155 K a5 c6 n
 let c2:=aJ 155 Kf a5 c6 n
 refine iS func140 rfl (by kernel_rfl) (by show (4:Nat)<=118;decide) ?_;unfold bW at hm
 refine dR (bD (v:=zP (some ⟨b1,0,none⟩)) (aL (aDD rfl) (aL (eR (t':=0) aTw rfl rfl) (aL (vE sc_31 hs (i:=2) rfl rfl rfl) (bD (v:=i64 k) ?_)))));obtain ⟨b,g6,hm⟩:=aB hm
 refine aL (xT aRb rfl h4 rfl rfl rfl g6) ?_;obtain ⟨r3,j1,j2⟩:=aW.el (sz:=3) rfl h4 g6
 obtain ⟨j,l,rfl,c7⟩:=j2
 refine aL (pL (t:=0) (vs:=[str b.Name,i64 b.Parameters,zS j b.Body.length l]) ag_90 hs j1 rfl rfl rfl) (pM (vs:=[str ([]:aH),i64 0,zS none 0 0]) zeroValue90 hs rfl (fun y r4 j3=>(tB (i:=0) (ns:=[str b.Name,i64 b.Parameters,zS j b.Body.length l]) (us:=[str b.Name,i64 b.Parameters,zS j b.Body.length l]) sizeOf90 j3 rfl rfl rfl rfl rfl (xM rfl) rfl rfl (fun j4 (e3:aD G K (box y 90 [str b.Name,i64 b.Parameters,zS j b.Body.length l]::c2::jO c d::box b1 217 o::L) j4)=>(cX (dR (aL (eR (t':=2) aOH rfl rfl) (aL (vE sc_88 e3 (i:=0) rfl rfl rfl) (bD (v:=i64 part) ?_)))))))))
 obtain ⟨a,g7,hm⟩:=aB hm
 refine aL (xT aLD rfl c7 rfl rfl rfl g7) ?_;obtain ⟨r5,j5,j6⟩:=aW.el (sz:=4) rfl c7 g7
 obtain ⟨p,q,rfl,e4⟩:=j6
 refine aL (pL (t:=0) (vs:=[i64 a.Kind,i64 a.Number,str a.Name,zS p a.Arguments.length q]) aSc e3 j5 rfl rfl rfl) (pM (vs:=[i64 0,i64 0,str ([]:aH),zS none 0 0]) zeroValue186 e3 rfl (fun z r6 j7=>(tB (i:=0) (ns:=[i64 a.Kind,i64 a.Number,str a.Name,zS p a.Arguments.length q]) (us:=[i64 a.Kind,i64 a.Number,str a.Name,zS p a.Arguments.length q]) sizeOf186 j7 rfl rfl rfl rfl rfl (xM rfl) rfl rfl (fun c8 (V:aD G K (box z 186 [i64 a.Kind,i64 a.Number,str a.Name,zS p a.Arguments.length q]::box y 90 [str b.Name,i64 b.Parameters,zS j b.Body.length l]::c2::jO c d::box b1 217 o::L) c8)=>(cX (dR (aL (eR (t':=0) aIj rfl rfl) (aL (vE aFu V (i:=0) rfl rfl rfl) (cX (aI [] (fun f w=>∃ e5 e6 g8 g9 h0,Hp.le K e5/\gZ e6 g8=some R/\aD G e5 (aJ 155 e5 g9 h0 e6::jO c g8::box b1 217 [zS a2 g.length c3,zS g9 e6.length h0,zM (some c)]::L) w) aF (dR (aL (aHZ rfl rfl) (cW (v:=zB (a.Kind == 1)) (cX ?_))))))))))))))
 rcases aG hm with ⟨e7,hm⟩|⟨e7,hm⟩
 ·refine dS e7 rfl (gG ?_);obtain ⟨j8,e8,h1,h2,j9⟩:=aD.lendBp V .head
  refine uD (C:=fun w'=>∃ L',aD G j8 L' w') [(0,0),(1,0),(2,0),(3,0),(4,0),(5,1),(6,1),(7,0),(8,0),(9,0),(10,0),(11,0)] Tryz_mixed (by kernel_rfl) (fun _ hg=>⟨_,aD.mono h2 hg⟩) (fun r8 k0=>?_)
  have d0:=aD.mono h2 k0
  refine fM rfl (fun _ _=>eR (t':=2) aPi rfl rfl) (fM rfl (fun _ ⟨_,d0⟩=>lD (t:=2) sc_9 d0 h1 rfl rfl) (fM rfl (fun _ _=>eR (t':=3) aFN rfl rfl) (fM rfl (fun _ ⟨_,d0⟩=>lD (t:=3) aNc d0 h1 rfl rfl) (fM rfl (fun _ _=>qT (v:=zS a8 e.length c9) rfl) (lM rfl ?_)))));obtain ⟨e9,k1,hm⟩:=aB hm
  refine cI (vs:=[zS p a.Arguments.length q,zS a8 e.length c9]) call198 rfl (aEq k1 d0 (e4.mono e8) (a3.mono e8)) ?_
  rintro _ r9 ⟨f0,f1,rfl,h3⟩
  refine bQ (aM ⟨⟨_,h3⟩,?_⟩)
  refine lM rfl ?_;obtain ⟨s0,s1,k2,k3,k4⟩:=aD.lendSp h3 e8 .head
  obtain ⟨a4,k5,hm⟩:=aB hm
  refine cI (vs:=[str a.Name,zS f0 e9.length f1]) call145 rfl (aAB k5 k3 hG k2) ?_
  rintro _ s2 ⟨rfl,k6⟩
  have h5:=k4 _ _ k6
  refine bQ (aM ⟨⟨_,h5⟩,?_⟩)
  refine fM rfl (fun _ _=>qT (v:=zT #[str a4.1,zB a4.2]) rfl) (fM rfl (fun _ _=>iM rfl rfl) (fM rfl (fun _ _=>iM rfl rfl) (fM rfl (fun _ _=>yV (v:=str a4.1) rfl) (fM rfl (fun _ _=>yV (v:=zB a4.2) rfl) (yX ?_)))))
  have k7:=j9 _ _ h5
  refine aM (dR (bD (v:=i64 k) (bD (v:=i64 part) (aL (nM rfl rfl) (bD (v:=zS a8 e.length c9) ?_)))));obtain ⟨a6,k8,hm⟩:=aB hm
  refine cI (vs:=[zS a8 e.length c9]) call84 rfl (eJ k8 k7 a3) ?_
  rintro _ s3 ⟨a7,a9,rfl,k9⟩
  refine aL (gW (vs:=[(0,i64 k),(1,i64 (wr (part+1))),(2,zS a7 a6.length a9)]) (cs:=[i64 k,i64 (wr (part+1)),zS a7 a6.length a9]) aIk rfl (by kernel_rfl)) (pM (vs:=[i64 0,i64 0,zS none 0 0]) zeroValue123 k9 rfl (fun d1 s4 l0=>(tB (i:=0) (ns:=[i64 k,i64 (wr (part+1)),zS a7 a6.length a9]) (us:=[i64 k,i64 (wr (part+1)),zS a7 a6.length a9]) sizeOf123 l0 rfl rfl rfl rfl rfl (xM rfl) rfl rfl (fun l1 (f2:aD G K (box d1 123 [i64 k,i64 (wr (part+1)),zS a7 a6.length a9]::aJ 2 K a7 a9 a6::box z 186 [i64 a.Kind,i64 a.Number,str a.Name,zS p a.Arguments.length q]::aJ 2 K f0 f1 e9::box y 90 [str b.Name,i64 b.Parameters,zS j b.Body.length l]::c2::jO c d::box b1 217 o::L) l1)=>(cX (sH [0,10,12] (fun f w=>∃ b0 b2 a0 b3 b4,oF g n d a4 b0 b2 a0=some R/\aD G K (aJ 2 K b3 b4 a0::box d1 123 [i64 b0,i64 b2,zS b3 a0.length b4]::c2::jO c d::box b1 217 o::L) w) ?_ ?_))))))
  ·rintro f h6 ⟨b0,b2,a0,b3,b4,hm,h7⟩
   unfold oF at hm
   refine eN (bD (v:=zP (some ⟨b1,0,none⟩)) (bD (v:=str a4.1) (aL (aFr (us:=[i64 b0,i64 b2,zS b3 a0.length b4]) xN h7 (i:=1) rfl rfl rfl rfl) (aL (gW (vs:=[(0,str a4.1),(1,zA #[i64 b0,i64 b2,zS b3 a0.length b4])]) (cs:=[str a4.1,i64 b0,i64 b2,zS b3 a0.length b4]) bs_155 rfl (by kernel_rfl)) ?_))));obtain ⟨f3,l2,s5,f4⟩:=aD.giveSp h7 (zR _) .head
   replace f4:aD G f3 (box d1 123 [i64 b0,i64 b2,zS b3 a0.length b4]::c2::jO c d::box b1 217 o::L) h6:=f4
   have s6:aD G f3 (box d1 123 [i64 b0,i64 b2,zS b3 a0.length b4]::aJ 155 f3 a5 c6 n::jO c d::box b1 217 o::L) h6:=aD.weak (i:=1) f4 rfl (fun _ h=>aJ.mono (zL b6 l2) h)
   exact aF
  refine dR (aL (eR (t':=2) aOH rfl rfl) (aL (vE sc_88 f2 (i:=4) rfl rfl rfl) (bD (v:=i64 part) (aL (nM rfl rfl) ?_))));obtain ⟨m,h8,hm⟩:=aB hm
  refine aL (xT aLD rfl c7 rfl rfl rfl h8) ?_;obtain ⟨s7,l3,l4⟩:=aW.el (sz:=4) rfl c7 h8
  obtain ⟨d6,d7,rfl,s8⟩:=l4
  refine aL (pL (t:=0) (vs:=[i64 m.Kind,i64 m.Number,str m.Name,zS d6 m.Arguments.length d7]) aSc f2 l3 rfl rfl rfl) (pM (vs:=[i64 0,i64 0,str ([]:aH),zS none 0 0]) zeroValue186 f2 rfl (fun l5 s9 l6=>(tB (i:=0) (ns:=[i64 m.Kind,i64 m.Number,str m.Name,zS d6 m.Arguments.length d7]) (us:=[i64 m.Kind,i64 m.Number,str m.Name,zS d6 m.Arguments.length d7]) sizeOf186 l6 rfl rfl rfl rfl rfl (xM rfl) rfl rfl (fun l7 (h9:aD G K (box l5 186 [i64 m.Kind,i64 m.Number,str m.Name,zS d6 m.Arguments.length d7]::box d1 123 [i64 k,i64 (wr (part+1)),zS a7 a6.length a9]::aJ 2 K a7 a9 a6::box z 186 [i64 a.Kind,i64 a.Number,str a.Name,zS p a.Arguments.length q]::aJ 2 K f0 f1 e9::box y 90 [str b.Name,i64 b.Parameters,zS j b.Body.length l]::c2::jO c d::box b1 217 o::L) l7)=>(cX (dR (aL (eR (t':=0) aIj rfl rfl) (aL (vE aFu h9 (i:=0) rfl rfl rfl) (aL (aHZ rfl rfl) (cX ?_))))))))))
  rcases aG hm with ⟨i0,hm⟩|⟨i0,hm⟩
  ·refine dS i0 rfl ?_;obtain ⟨l8,t0,t1,i1,t2⟩:=aD.lendBp h9 .head
   refine uD (C:=fun w'=>∃ L',aD G l8 L' w') [(0,0),(1,0),(2,0),(3,0),(4,0),(5,1),(6,0),(7,2)] Tryz_mixed (by kernel_rfl) (fun _ hg=>⟨_,aD.mono i1 hg⟩) (fun t3 l9=>?_)
   have t4:=aD.mono i1 l9
   exact aF
  ·exact aF
 ·refine eK e7 rfl (dR (aL (aHZ rfl rfl) (cW (v:=zB (a.Kind == 2)) (cX ?_))))
  rcases aG hm with ⟨f5,hm⟩|⟨f5,hm⟩
  ·refine dS f5 rfl (dR (bD (v:=zP (some ⟨b1,0,none⟩)) (bD (v:=i64 k) (bD (v:=i64 part) (aL (nM rfl rfl) (bD (v:=zS a8 e.length c9) ?_))))))
   have m0:aD G K (box z 186 [i64 a.Kind,i64 a.Number,str a.Name,zS p a.Arguments.length q]::box y 90 [str b.Name,i64 b.Parameters,zS j b.Body.length l]::b9::jO c d::box b1 217 o::L) c8:=aD.weak (i:=2) V rfl (fun _ h=>aJ.mono b6 h)
   have m1:aD G K (b9::jO c d::box b1 217 o::box z 186 [i64 a.Kind,i64 a.Number,str a.Name,zS p a.Arguments.length q]::box y 90 [str b.Name,i64 b.Parameters,zS j b.Body.length l]::L) c8:=(aD.arr 5 [2,3,4,0,1] m0 rfl)
   obtain ⟨t5,m2,hm⟩:=aB hm
   refine cI (vs:=g5) call140 rfl (ih (Kf:=K) m2 m1 hG (zR _) h4 a3) ?_
   rintro _ t6 ⟨m3,t7,t8,rfl,d8,i2⟩
   refine cX (eN (bD (v:=zP (some ⟨b1,0,none⟩)) (bD (v:=i64 k) (aL (aFr (us:=[str b.Name,i64 b.Parameters,zS j b.Body.length l]) ag_90 i2 (i:=4) rfl rfl rfl rfl) (bD (v:=i64 part) (aL (nM rfl rfl) ?_))))));obtain ⟨m4,m5,hm⟩:=aB hm
   refine cI (vs:=[zA #[str b.Name,i64 b.Parameters,zS j b.Body.length l],i64 (wr (part+1))]) call200 rfl (aAM m5 i2 (c7.mono d8)) ?_
   rintro _ t9 ⟨rfl,m6⟩
   refine bD (v:=zS a8 e.length c9) ?_;obtain ⟨i3,m7,hm⟩:=aB hm
   refine cI (vs:=[zP (some ⟨b1,0,none⟩),i64 k,i64 m4,zS a8 e.length c9]) call140 rfl (ih (Kf:=m3) m7 m6 hG (zR _) (h4.mono d8) (a3.mono d8)) ?_
   rintro _ u0 ⟨m8,m9,n0,rfl,n1,n2⟩
   exact bQ (iU (aM ⟨bO,m8,i3.1,i3.2,m9,n0,(zL d8 n1),hm,(aD.arr 5 [0,1,2] n2 rfl)⟩))
  ·refine eK f5 rfl (dR (aL (aHZ rfl rfl) (cW (v:=zB (a.Kind == 3)) (cX ?_))))
   rcases aG hm with ⟨f6,hm⟩|⟨f6,hm⟩
   ·refine dS f6 rfl (dR (aL (eR (t':=3) aFN rfl rfl) (aL (vE aNc V (i:=0) rfl rfl rfl) ?_)));obtain ⟨n3,i4,hm⟩:=aB hm
    refine aL (xT aPj rfl e4 rfl rfl rfl i4) ?_;obtain ⟨u1,n4,n5⟩:=aW.el (sz:=1) rfl e4 i4
    obtain ⟨n6,n7,rfl,n8⟩:=n5
    refine aL (lD (t:=0) sc_274 V n4 rfl rfl) (bD (v:=zS a8 e.length c9) ?_);obtain ⟨u2,n9,hm⟩:=aB hm
    refine cI (vs:=[zS n6 n3.length n7,zS a8 e.length c9]) call201 rfl (aHP n9 V n8 a3) ?_
    rintro _ f7 ⟨rfl,i5⟩
    refine aL (R_neq rfl rfl) (cX ?_)
    rcases aG hm with ⟨f8,hm⟩|⟨f8,hm⟩
    ·refine dS f8 rfl (eN (bD (v:=zP (some ⟨b1,0,none⟩)) (bD (v:=i64 k) (bD (v:=i64 part) (aL (nM rfl rfl) (bD (v:=zS a8 e.length c9) ?_))))))
     have o0:aD G K (box z 186 [i64 a.Kind,i64 a.Number,str a.Name,zS p a.Arguments.length q]::box y 90 [str b.Name,i64 b.Parameters,zS j b.Body.length l]::b9::jO c d::box b1 217 o::L) f7:=aD.weak (i:=2) i5 rfl (fun _ h=>aJ.mono b6 h)
     have o1:aD G K (b9::jO c d::box b1 217 o::box z 186 [i64 a.Kind,i64 a.Number,str a.Name,zS p a.Arguments.length q]::box y 90 [str b.Name,i64 b.Parameters,zS j b.Body.length l]::L) f7:=(aD.arr 5 [2,3,4,0,1] o0 rfl)
     obtain ⟨i6,o2,hm⟩:=aB hm
     refine cI (vs:=g5) call140 rfl (ih (Kf:=K) o2 o1 hG (zR _) h4 a3) ?_
     rintro _ u3 ⟨o3,o4,o5,rfl,o6,o7⟩
     exact bQ (iU (aM ⟨bO,o3,i6.1,i6.2,o4,o5,o6,hm,(aD.arr 5 [0,1,2] o7 rfl)⟩))
    ·refine eK f8 rfl ?_
     have o8:aD G K (box z 186 [i64 a.Kind,i64 a.Number,str a.Name,zS p a.Arguments.length q]::box y 90 [str b.Name,i64 b.Parameters,zS j b.Body.length l]::b9::jO c d::box b1 217 o::L) f7:=aD.weak (i:=2) i5 rfl (fun _ h=>aJ.mono b6 h)
     exact kB (iU (aM ⟨bO,K,n,d,a5,c6,(zR _),hm,(aD.arr 2 [] o8 rfl)⟩))
   ·refine eK f6 rfl (dR (aL (aHZ rfl rfl) (cW (v:=zB (a.Kind == 4)) (cX ?_))))
    rcases aG hm with ⟨f9,hm⟩|⟨f9,hm⟩
    ·refine dS f9 rfl (dR (aL (eR (t':=1) aLE rfl rfl) (aL (vE aFu V (i:=0) rfl rfl rfl) (aL (nM rfl rfl) (bD (v:=i64 0) (cX (aI [] (fun f w=>∃ d2 d3 d9 e0 e1,Hp.le K d2/\oG d3 d9=some R/\aD G d2 (aJ 155 d2 e0 e1 d3::jO c d9::box b1 217 [zS a2 g.length c3,zS e0 d3.length e1,zM (some c)]::L) w) ?_ ?_)))))))
     ·rintro f u4 ⟨d2,d3,d9,e0,e1,o9,hm,p0⟩
      unfold oG at hm
      exact iU (aM ⟨bO,d2,d3,d9,e0,e1,o9,hm,p0⟩)
     have p1:aD G K (box z 186 [i64 a.Kind,i64 a.Number,str a.Name,zS p a.Arguments.length q]::box y 90 [str b.Name,i64 b.Parameters,zS j b.Body.length l]::b9::jO c d::box b1 217 o::L) c8:=aD.weak (i:=2) V rfl (fun _ h=>aJ.mono b6 h)
     obtain ⟨u5,p2,ho⟩:=aB hm
     refine nO [0,1,2,3,103] p2 (fun r b5 a1 f w=>∃ J u x,Hp.le K J/\f 104=i64 a1/\aD G J (aJ 155 J u x r::jO c b5::box b1 217 [zS a2 g.length c3,zS u r.length x,zM (some c)]::L) w) ?_ ?_
     ·exact ⟨K,a5,c6,(zR _),rfl,(aD.arr 2 [] p1 rfl)⟩
     ·rintro r b5 a1 u6 f u7 hm hr ⟨J,u,x,c0,g0,i7⟩
      unfold eV at hm
      refine dR (aL (aFJ g0 rfl) (cX (gG ?_)))
      rcases aG hm with ⟨g1,hm⟩|⟨g1,hm⟩
      ·refine dS g1 rfl (kB (aM (gG (bI (dR (kH g0 (cW (v:=i64 a1) (cX (eN (bD (v:=zP (some ⟨b1,0,none⟩)) (bD (v:=i64 k) (bD (v:=i64 part) (aL (nM rfl rfl) (bD (v:=zS a8 e.length c9) ?_))))))))))))));obtain ⟨p3,p4,hm⟩:=aB hm
       refine cI (vs:=[zS a8 e.length c9]) call84 rfl (eJ p4 i7 (a3.mono c0)) ?_
       rintro _ u8 ⟨p5,p6,rfl,p7⟩
       refine bD (v:=i64 a1) (fQ (Kt:=K) (xs:=([a1]:List Int)) (cs:=[i64 a1]) (vs:=[(0,i64 a1)]) xU ez_2 rfl rfl p7 rfl (by kernel_rfl) rfl rfl rfl ⟨rfl,trivial⟩ (fun p8 p9 (q0:aD G J (aJ 2 K p8 1 ([a1]:List Int)::aJ 2 K p5 p6 p3::aJ 155 J u x r::jO c b5::box b1 217 [zS a2 g.length c3,zS u r.length x,zM (some c)]::L) p9)=>?_));obtain ⟨i8,q1,hm⟩:=aB hm
       refine aLt (i:=0) xU underlying68 ez_2 rfl rfl q0 rfl c0 c0 q1 rfl rfl rfl rfl (fun _ h=>h) (fun i9 j0 g2 (q2:aD G J (aJ 2 K i9 j0 i8::aJ 155 J u x r::jO c b5::box b1 217 [zS a2 g.length c3,zS u r.length x,zM (some c)]::L) g2)=>?_);obtain ⟨e2,g3,q3,g4⟩:=aD.giveSp q2 c0 .head
       replace g4:aD G e2 (aJ 155 J u x r::jO c b5::box b1 217 [zS a2 g.length c3,zS u r.length x,zM (some c)]::L) g2:=g4
       have q4:aD G e2 (aJ 155 e2 u x r::jO c b5::box b1 217 [zS a2 g.length c3,zS u r.length x,zM (some c)]::L) g2:=aD.weak (i:=0) g4 rfl (fun _ h=>aJ.mono g3 h)
       obtain ⟨u9,q5,hm⟩:=aB hm
       refine cI (vs:=[zP (some ⟨b1,0,none⟩),i64 k,i64 (wr (part+1)),zS i9 i8.length j0]) call140 rfl (ih (Kf:=e2) q5 q4 hG (zR _) (h4.mono (zL c0 g3)) q3) ?_
       rintro _ v0 ⟨q6,q7,q8,rfl,q9,r0⟩
       exact bQ (iU (aM (eN (aL (nM g0 rfl) (bD (v:=i64 (wr (a1+1))) (cX ⟨_,(zI hm).symm,bO,q6,q7,q8,(zL (zL c0 g3) q9),rfl,r0⟩))))))
      ·refine eK g1 rfl (aHY (uC (uC ?_)))
       have r1:=hr _ (zI hm).symm
       subst r1
       have hm:(oG r b5)=some R:=ho
       clear hr ho
       exact aBH (aM ⟨bO,J,r,b5,u,x,c0,hm,i7⟩)
    ·refine eK f9 rfl ?_
     have r2:aD G K (box z 186 [i64 a.Kind,i64 a.Number,str a.Name,zS p a.Arguments.length q]::box y 90 [str b.Name,i64 b.Parameters,zS j b.Body.length l]::b9::jO c d::box b1 217 o::L) c8:=aD.weak (i:=2) V rfl (fun _ h=>aJ.mono b6 h)
     exact kB (iU (aM ⟨bO,K,n,d,a5,c6,(zR _),hm,(aD.arr 2 [] r2 rfl)⟩))
theorem wM (n:Nat):∀ {G:mL} {K:Hp} {L:List eU} {w:World} {Kf:Hp} {b1:Nat} {a:(List Definition)} {a2:Option Addr} {c3:Nat} {c:(List bF)} {a5:Option Addr} {c6:Nat} {l:(List (aH × Bool))} {b:Nat} {k:Int} {part:Int} {d:(List Int)} {a8:Option Addr} {c9:Nat} {R:((List bF) × (List (aH × Bool)))} (hm:aX n a c l k part d=some R) (e:aD G K (aJ 155 Kf a5 c6 c::jO b l::box b1 217 [zS a2 a.length c3,zS a5 c.length c6,zM (some b)]::L) w) (g:G.lo=0) (h:Hp.le Kf K) (i:aW K a2 c3 a) (j:aW K a8 c9 d),
  Calls prog 140 ([zP (some ⟨b1,0,none⟩),i64 k,i64 part,zS a8 d.length c9]:List Value).toArray w (cN fun v w'=>∃ m o p,v=zT #[]/\Hp.le K m/\aD G m (aJ 155 m o p R.1::jO b R.2::box b1 217 [zS a2 a.length c3,zS o R.1.length p,zM (some b)]::L) w'):=by
 induction n with
 |zero=>
  intro G K L w Kf b1 a a2 c3 c a5 c6 l b k part d a8 c9 R hm e g h i j
  unfold aX at hm
  cases hm
 |succ n ih=>
  intro G K L w Kf b1 a a2 c3 c a5 c6 l b k part d a8 c9 R hm e g h i j
  exact wL (rec_:=aX n) (fun hm e g h i j=>ih hm e g h i j) hm e g h i j
theorem aHi {x0_:(List Definition)} {x1_:(List bF)} {x2_M:(List (aH × Bool))} {r7:Nat} {k part:Int} {values:(List Int)} {R:((List bF) × (List (aH × Bool)))} (hm:aAv x0_ x1_ x2_M k part values=some R) (hs:aD G K (aJ 155 Kf a5 c6 x1_::jO r7 x2_M::box b1 217 [zS a2 x0_.length c3,zS a5 x1_.length c6,zM (some r7)]::L) w) (hG:G.lo=0) (hKf:Hp.le Kf K) (h4:aW K a2 c3 x0_) (h10:aW K a8 c9 values):
  Calls prog 140 ([zP (some ⟨b1,0,none⟩),i64 k,i64 part,zS a8 values.length c9]:List Value).toArray w (cN fun v w'=>∃ K' ra1 rc1,v=zT #[]/\Hp.le K K'/\aD G K' (aJ 155 K' ra1 rc1 R.1::jO r7 R.2::box b1 217 [zS a2 x0_.length c3,zS ra1 R.1.length rc1,zM (some r7)]::L) w'):=wM 100000 hm hs hG hKf h4 h10
theorem aMo {a:(List Definition)} {p:GPoint} {R:((List bF) × Bool)} (hm:aHc a p=some R) (k:aD G K (L) w) (l:G.lo=0) (m:aW K a1 c2 a) (n:aW K a4 c5 p.Values):
  Calls prog 87 ([zS a1 a.length c2,zA #[i64 p.Definition,i64 p.Part,zS a4 p.Values.length c5]]:List Value).toArray w (cN fun v w'=>∃ b d e,v=zT #[zS d R.1.length e,zB R.2]/\Hp.le K b/\aD G b (aJ 155 b d e R.1::L) w'):=by
 refine cC func87 ?_;unfold aHc at hm
 refine aC ?_;refine sL fun g o h=>?_
 refine aC ?_;refine aPb aH Bool h ?_
 intro c i (q:aD G K (jO c ([]:(List (aH × Bool)))::box g 123 [i64 p.Definition,i64 p.Part,zS a4 p.Values.length c5]::L) i)
 refine aL (gW (vs:=[(0,zS a1 a.length c2),(2,zM (some c))]) (cs:=[zS a1 a.length c2,zS none 0 0,zM (some c)]) bs_217 rfl (by kernel_rfl)) (sL fun r t j=>?_);refine aC ?_
 have u:=aD.nil (α:=bF) j 155 K
 exact aF
theorem wN {m:aT} {p:aH} {b:Nat} {a:aH} {c:Nat} {R:Bool} (hm:pF m p a=some R) (g:aD G K (L) w) (h:eM K a1 b [str p]) (i:eM K a4 c [str a]):
  Calls prog 208 ([zA #[str m.Left,str m.Right,str m.Result],fL a1 b,fL a4 c]:List Value).toArray w (cN fun v w'=>v=zB R/\aD G K (L) w'):=by
 refine cC func208 ?_;unfold pF at hm
 refine aC ?_;refine sL fun j k l=>?_
 iterate 4 refine cV ?_
 refine bC [] (fun f w=>∃ d,lX d=some R/\f 4=zB d/\aD G K (L) w) aF (aC ?_);refine aL (R_minS rfl rfl) (aC ?_)
 rcases aG hm with ⟨e,hm⟩|⟨e,hm⟩
 ·refine aC ?_;refine aL (R_maxS rfl rfl) (aC ?_)
  exact ⟨bO,m.Right == (mxS p a),hm,rfl,nC⟩
 ·exact aF
theorem gA {s_:(List aT)} {d:aH} {b:Nat} {e:aH} {c:Nat} {R:Int} (hm:dD s_ d e=some R) (q:aD G K (L) w) (h:aW K a1 c2 s_) (i:eM K a4 b [str d]) (j:eM K a7 c [str e]):
  Calls prog 207 ([zS a1 s_.length c2,Value.func (.func 208) #[] #[fL a4 b,fL a7 c]]:List Value).toArray w (cN fun v w'=>v=i64 R/\aD G K (L) w'):=by
 refine cC func207 ?_;unfold dD at hm
 refine aC ?_;refine aI [] (fun f w=>gH=some R/\aD G K (L) w) aF ?_
 obtain ⟨r,k,ho⟩:=aB hm
 refine bL [0,1,7] k (fun g f w=>f 8=i64 g/\aD G K (L) w) aF ?_
 ·rintro g t f u hm hr ⟨x,l⟩
  unfold bX at hm
  refine aC ?_
  rcases aG hm with ⟨m,hm⟩|⟨m,hm⟩
  ·refine aC ?_;refine bI (aC ?_)
   obtain ⟨a,n,hm⟩:=aB hm
   refine aC ?_;obtain ⟨y,z,o⟩:=aW.el (sz:=3) rfl h n
   cases o
   refine aC ?_;obtain ⟨J,p,hm⟩:=aB hm
   exact lL (vs:=[zA #[str a.Left,str a.Right,str a.Result]]) (caps:=[fL a4 b,fL a7 c]) (us:=[zA #[str a.Left,str a.Right,str a.Result],fL a4 b,fL a7 c]) rfl call208 rfl rfl (wN p l i j) aF
  ·exact aF
theorem aAP {s_:aR} {a b:aH} {R:(aH × Bool)} (hm:mK s_ a b=some R) (o:aD G K (L) w) (p:aW K a1 c2 s_.Definitions) (q:aW K a4 c5 s_.Components) (d:aW K a7 c8 s_.Meetings) (r:aW K a10 c11 s_.Allowed) (t:aW K a13 c14 s_.Hidden):
  Calls prog 147 ([zA #[zS a1 s_.Definitions.length c2,zS a4 s_.Components.length c5,zS a7 s_.Meetings.length c8,zS a10 s_.Allowed.length c11,zS a13 s_.Hidden.length c14],str a,str b]:List Value).toArray w (cN fun v w'=>v=zT #[str R.1,zB R.2]/\aD G K (L) w'):=by
 refine cC func147 ?_;unfold mK at hm
 refine aC ?_;refine sL fun u x y=>?_
 refine sL fun e z J=>?_;refine sL fun g V h=>?_
 iterate 8 refine cV ?_
 refine aL (qV (vs:=[zP (some ⟨e,0,none⟩),zP (some ⟨g,0,none⟩)]) rfl) ?_;obtain ⟨a0,i,j,k,a2⟩:=aD.lendBp h zt1
 obtain ⟨a3,c,l,m,a5⟩:=aD.lendBp k .head
 obtain ⟨a6,n,hm⟩:=aB hm
 exact dQ call207 (gA n m (d.mono (zL i c)) (j.mono c) l) aF
theorem gT {s_:(List aH)} {a:aH} {R:Bool} (hm:cE s_ a=some R) (b:aD G K (L) w) (c:aW K a1 c2 s_):
  Calls prog 146 ([zS a1 s_.length c2,str a]:List Value).toArray w (cN fun v w'=>v=zB R/\aD G K (L) w'):=by
 exact aF
theorem uA {a9:(List Definition)} {b0:(List aZ)} {b2:(List aT)} {a6 a4:(List aH)} {a1:(List GPoint)} {y:(List aN)} {J:List (Dp.Hd aN)} {q:(List (aH × Bool))} {e:Nat} {a3:aH} {c5:(List Int)} {c d:Int} {b3:(List GPoint)} {R:((List aN) × (List (aH × Bool)))} (hm:jZ a9 b0 b2 a6 a4 a1 y q a3 c5 c d b3=some R) (hs:aD G K (aJ 105 K a20 c21 (aO J y)::rows [123,2] J y::jO e q::box b1 149 [zS a2 a9.length c3,zS a5 b0.length c6,zS a8 b2.length c9,zS a11 a6.length c12,zS a14 a4.length c15,zS a17 a1.length c18,zS a20 y.length c21,zM (some e)]::L) w) (hG:G.lo=0) (h4:aW K a2 c3 a9) (h7:aW K a5 c6 b0) (n5:aW K a8 c9 b2) (h3:aW K a11 c12 a6) (h5:aW K a14 c15 a4) (h6:aW K a17 c18 a1) (e8:List.length J=List.length y) (h8:aW K a25 c26 c5) (d0:aW K a28 c29 b3):
  Calls prog 89 ([zP (some ⟨b1,0,none⟩),str a3,zS a25 c5.length c26,i64 c,i64 d,zS a28 b3.length c29]:List Value).toArray w (cN fun v w'=>∃ e9 f0 d8,v=zT #[]/\List.length d8=List.length R.1/\aD G K (aJ 105 K e9 f0 (aO d8 R.1)::rows [123,2] d8 R.1::jO e R.2::box b1 149 [zS a2 a9.length c3,zS a5 b0.length c6,zS a8 b2.length c9,zS a11 a6.length c12,zS a14 a4.length c15,zS a17 a1.length c18,zS e9 R.1.length f0,zM (some e)]::L) w'):=by
 let r:=[zS a2 a9.length c3,zS a5 b0.length c6,zS a8 b2.length c9,zS a11 a6.length c12,zS a14 a4.length c15,zS a17 a1.length c18,zS a20 y.length c21,zM (some e)]
 let V:=aJ 105 K a20 c21 (aO J y)
 let a0:=rows [123,2] J y
 refine iS func89 rfl (by kernel_rfl) (by show (6:Nat)<=101;decide) ?_;unfold jZ at hm
 refine gG (gG (bC [0,1,2,3,4,5] (fun f w=>∃ d9,kM a4 a1 y q a3 c5 c d b3 d9=some R/\f 27=zB d9/\aD G K (V::a0::jO e q::box b1 149 r::L) w) ?_ ?_))
 ·rintro f n6 ⟨d9,hm,h9,f1⟩
  unfold kM at hm
  refine aM ?_
  rcases aG hm with ⟨f2,hm⟩|⟨f2,hm⟩
  ·exact aF
  ·refine eK f2 h9 (kB (aM (sH [0,3,4,5] (fun f w=>∃ d1 c7 d2 d3,dW a1 y q c d b3 d1 c7=some R/\f 1=str d1/\f 2=zS d2 c7.length d3/\aW K d2 d3 c7/\aD G K (V::a0::jO e q::box b1 149 r::L) w) ?_ ?_)))
   ·rintro f n7 ⟨d1,c7,d2,d3,hm,i0,i1,i2,i3⟩
    unfold dW at hm
    refine dR (kH i0 (kH i1 ?_));obtain ⟨m,i4,hm⟩:=aB hm
    refine cI (vs:=[str d1,zS d2 c7.length d3]) call145 rfl (aAB i4 i3 hG i2) ?_
    rintro _ n8 ⟨rfl,f3⟩
    refine bD (v:=zT #[str m.1,zB m.2]) (aL (iM rfl rfl) (aL (iM rfl rfl) (cW (v:=str m.1) (cW (v:=zB m.2) (cX (dR (bD (v:=zP (some ⟨b1,0,none⟩)) (aL (aDD rfl) (aL (eR (t':=5) aTx rfl rfl) (aL (vE aFO f3 (i:=3) rfl rfl rfl) ?_))))))))));obtain ⟨d4,i5,hm⟩:=aB hm
    refine cI (vs:=[zS a17 a1.length c18]) call81 rfl (aAF i5 f3 h6) ?_
    rintro _ n9 ⟨a,b,u,rfl,b4,f4⟩
    refine cW (v:=zS a d4.length b) (cX (dR (bD (v:=zS a d4.length b) (bD (v:=i64 c) (bD (v:=zS a28 b3.length c29) ?_)))));obtain ⟨b6,f5,hm⟩:=aB hm
    refine aL (xT jQ rfl d0 rfl rfl rfl f5) ?_;obtain ⟨o0,i6,i7⟩:=aW.el (sz:=3) rfl d0 f5
    obtain ⟨f6,f7,rfl,i8⟩:=i7
    refine aL (pL (t:=0) (vs:=[i64 b6.Definition,i64 b6.Part,zS f6 b6.Values.length f7]) xN f4 i6 rfl rfl rfl) ?_;obtain ⟨f8,i9,hm⟩:=aB hm
    refine cI (vs:=[zA #[i64 b6.Definition,i64 b6.Part,zS f6 b6.Values.length f7]]) call92 rfl (oM i9 f4 i8) ?_
    rintro _ j0 ⟨o,p,rfl,f9⟩
    obtain ⟨o1,d5,hm⟩:=aB hm
    obtain ⟨⟨o2,o3⟩,g0⟩:=aGA b4 d5
    have g1:=cG f9 (i:=1) rfl (rP b4 d5 g0)
    refine aL (dG jQ rfl g1 rfl rfl rfl d5) ?_
    have j1:aD G K (aJ 2 K o p f8.Values::aJ 123 K a b (aO u d4)::rows [2] u d4::V::a0::jO e q::box b1 149 r::L) j0:=f9
    obtain ⟨b7,a7,hm⟩:=aB hm
    refine aMW (i:=0) (tys:=[2]) (hd':=((o,p):Dp.Hd GPoint)) (e':=(f8:GPoint)) (hds:=u) sizeOf123 j1 b4 rfl rfl rfl rfl rfl d5 g0 a7 rfl ?_
    intro j2 (e0:aD G K (aJ 123 K a b (aO (List.set u c.toNat (o,p)) b7)::rows [2] (List.set u c.toNat (o,p)) b7::V::a0::jO e q::box b1 149 r::L) j2)
    refine cX (sH [0,3,4,12] (fun f w=>∃ h j,kL y q c d m h=some R/\f 14=zS a h.length b/\List.length j=List.length h/\aD G K (aJ 123 K a b (aO j h)::rows [2] j h::V::a0::jO e q::box b1 149 r::L) w) ?_ ?_)
    ·rintro f o4 ⟨h,j,hm,g2,g3,j3⟩
     unfold kL at hm
     refine dR (bD (v:=str m.1) ?_);obtain ⟨o5,j4,hm⟩:=aB hm
     refine aL (aLr rfl rfl j4) (bD (v:=i64 c) ?_);obtain ⟨o6,j5,hm⟩:=aB hm
     refine cI (vs:=[i64 c]) call135 rfl (aFc j3 j5) ?_
     rintro _ o7 ⟨rfl,j6⟩
     obtain ⟨o8,j7,hm⟩:=aB hm
     refine aL (aLr rfl rfl j7) ?_;obtain ⟨o9,j8,hm⟩:=aB hm
     refine aL (aLr rfl rfl j8) (bD (v:=i64 d) ?_);obtain ⟨p0,j9,hm⟩:=aB hm
     refine cI (vs:=[i64 d]) call135 rfl (aFc j6 j9) ?_
     rintro _ p1 ⟨rfl,k0⟩
     obtain ⟨p2,k1,hm⟩:=aB hm
     refine aL (aLr rfl rfl k1) ?_;obtain ⟨p3,k2,hm⟩:=aB hm
     refine aL (aLr rfl rfl k2) (kH g2 ?_);obtain ⟨p4,p5,k3,p6,k4,k5⟩:=aD.lendD' (i:=0) k0 g3 rfl rfl
     obtain ⟨p7,k6,hm⟩:=aB hm
     refine cI (vs:=[zS a h.length b]) call47 rfl (aCk k6 k4 hG k3) ?_
     rintro _ p8 ⟨rfl,k7⟩
     have d6:=k5 _ _ k7
     obtain ⟨c8,k8,hm⟩:=aB hm
     refine aL (aLr rfl rfl k8) (cW (v:=str c8) (cX (dR (bD (v:=zP (some ⟨b1,0,none⟩)) (aL (aDD rfl) (aL (eR (t':=7) aPo rfl rfl) (aL (vE sc_147 d6 (i:=5) rfl rfl rfl) (bD (v:=str c8) (aL (R_look1 (kv:=q) (k:=c8) (z:=(false:Bool)) runUnderlying147 ko_9 zeroValue4 d6 (i:=4) rfl rfl rfl) (aL (R_not rfl) (cX ?_)))))))))))
     rcases aG hm with ⟨g4,hm⟩|⟨g4,hm⟩
     ·refine dS g4 rfl (dR (bD (v:=zP (some ⟨b1,0,none⟩)) (aL (aDD rfl) (aL (eR (t':=7) aPo rfl rfl) (aL (vE sc_147 d6 (i:=5) rfl rfl rfl) (bD (v:=str c8) ?_))))));obtain ⟨b8,k9,hm⟩:=aB hm
      refine aPe (i:=4) (k:=c8) (v:=true) runUnderlying147 ko_9 d6 rfl rfl rfl rfl k9 (fun e1 (g5:aD G K (aJ 123 K a b (aO j h)::rows [2] j h::V::a0::jO e b8::box b1 149 r::L) e1)=>(cX (eN (bD (v:=zP (some ⟨b1,0,none⟩)) (bD (v:=zP (some ⟨b1,0,none⟩)) (aL (aDD rfl) (aL (eR (t':=6) aPp rfl rfl) (aL (vE sc_101 g5 (i:=5) rfl rfl rfl) (bD (v:=str m.1) (bD (v:=i64 c) (bD (v:=i64 d) (kH g2 (aL (gW (vs:=[(0,str m.1),(1,i64 c),(2,i64 d),(3,zS a h.length b)]) (cs:=[str m.1,i64 c,i64 d,zS a h.length b]) aSe rfl (by kernel_rfl)) ?_)))))))))))))
      have l0:aD G K (aJ 123 K a b (aO j h)::aLB [2] j h::V::a0::jO e b8::box b1 149 r::L) e1:=aD.closeL (i:=1) g5 rfl g3
      have l1:aD G K (rows [123,2] ([((a,b),j)]:List (Dp.Hd aN)) ([⟨m.1,c,d,h⟩]:List aN)::V::a0::jO e b8::box b1 149 r::L) e1:=aD.rowsOneS (tys:=[123,2]) (hd:=(((a,b),j):Dp.Hd aN)) (x:=(⟨m.1,c,d,h⟩:aN)) l0
      refine fQ (Kt:=K) (xs:=aO ([((a,b),j)]:List (Dp.Hd aN)) ([⟨m.1,c,d,h⟩]:List aN)) (cs:=[str m.1,i64 c,i64 d,zS a h.length b]) (vs:=[(0,zA #[str m.1,i64 c,i64 d,zS a h.length b])]) aFv aNe rfl rfl l1 rfl (by kernel_rfl) rfl rfl rfl ⟨rfl,trivial⟩ ?_
      intro l2 l3 (l4:aD G K (aJ 105 K l2 1 (aO ([((a,b),j)]:List (Dp.Hd aN)) ([⟨m.1,c,d,h⟩]:List aN))::rows [123,2] ([((a,b),j)]:List (Dp.Hd aN)) ([⟨m.1,c,d,h⟩]:List aN)::V::a0::jO e b8::box b1 149 r::L) l3)
      obtain ⟨b5,g6,hm⟩:=aB hm
      refine aJv (i:=0) (tys:=[123,2]) (hds:=J) (hds2:=([((a,b),j)]:List (Dp.Hd aN))) aFv underlying101 aNe rfl rfl l4 e8 rfl rfl rfl g6 rfl rfl rfl rfl ?_
      intro b9 c0 l5 (l6:aD G K (aJ 105 K b9 c0 (aO (J++([((a,b),j)]:List (Dp.Hd aN))) b5)::rows [123,2] (J++([((a,b),j)]:List (Dp.Hd aN))) b5::jO e b8::box b1 149 r::L) l5)
      refine aL (aDD rfl) (aL (eR (t':=6) aPp rfl rfl) (tB (i:=3) (ns:=[zS b9 b5.length c0]) (us:=[zS a2 a9.length c3,zS a5 b0.length c6,zS a8 b2.length c9,zS a11 a6.length c12,zS a14 a4.length c15,zS a17 a1.length c18,zS b9 b5.length c0,zM (some e)]) sizeOf101 l6 rfl rfl rfl rfl rfl (xM rfl) rfl rfl ?_))
      intro l7 (l8:aD G K (aJ 105 K b9 c0 (aO (J++([((a,b),j)]:List (Dp.Hd aN))) b5)::rows [123,2] (J++([((a,b),j)]:List (Dp.Hd aN))) b5::jO e b8::box b1 149 [zS a2 a9.length c3,zS a5 b0.length c6,zS a8 b2.length c9,zS a11 a6.length c12,zS a14 a4.length c15,zS a17 a1.length c18,zS b9 b5.length c0,zM (some e)]::L) l7)
      obtain rfl:=zI hm
      exact bQ (retQ_0n results89 ⟨b9,c0,(J++([((a,b),j)]:List (Dp.Hd aN))),rfl,(aGB e8 rfl g6),l8⟩)
     ·exact aF
    refine dR (bD (v:=i64 d) (aL (R_geq rfl rfl) (cX ?_)))
    rcases aG hm with ⟨e2,hm⟩|⟨e2,hm⟩
    ·refine dS e2 rfl (eN (kH (v:=zS a b7.length b) (Eq.trans rfl (congrArg (fun n=>zS a n b) (fB a7))) (bD (v:=i64 d) (bD (v:=zS a28 b3.length c29) ?_))));obtain ⟨c1,g7,hm⟩:=aB hm
     refine aL (xT jQ rfl d0 rfl rfl rfl g7) ?_;obtain ⟨p9,m0,m1⟩:=aW.el (sz:=3) rfl d0 g7
     obtain ⟨g8,g9,rfl,m2⟩:=m1
     refine aL (pL (t:=0) (vs:=[i64 c1.Definition,i64 c1.Part,zS g8 c1.Values.length g9]) xN e0 m0 rfl rfl rfl) ?_;obtain ⟨h0,m3,hm⟩:=aB hm
     refine cI (vs:=[zA #[i64 c1.Definition,i64 c1.Part,zS g8 c1.Values.length g9]]) call92 rfl (oM m3 e0 m2) ?_
     rintro _ m4 ⟨c2,c4,rfl,m5⟩
     obtain ⟨q0,e3,hm⟩:=aB hm
     refine aL (dG jQ rfl g1 rfl rfl rfl e3) ?_;obtain ⟨⟨q1,q2⟩,m6⟩:=aGA (aCC (hd:=((o,p):Dp.Hd GPoint)) b4 a7) e3
     have m7:aD G K (aJ 2 K c2 c4 h0.Values::aJ 123 K a b (aO (List.set u c.toNat (o,p)) b7)::rows [2] (List.set u c.toNat (o,p)) b7::V::a0::jO e q::box b1 149 r::L) m4:=m5
     obtain ⟨e4,e5,hm⟩:=aB hm
     refine aMW (i:=0) (tys:=[2]) (hd':=((c2,c4):Dp.Hd GPoint)) (e':=(h0:GPoint)) (hds:=(List.set u c.toNat (o,p))) sizeOf123 m7 (aCC (hd:=((o,p):Dp.Hd GPoint)) b4 a7) rfl rfl rfl rfl rfl e3 m6 e5 rfl ?_
     intro m8 (m9:aD G K (aJ 123 K a b (aO (List.set (List.set u c.toNat (o,p)) d.toNat (c2,c4)) e4)::rows [2] (List.set (List.set u c.toNat (o,p)) d.toNat (c2,c4)) e4::V::a0::jO e q::box b1 149 r::L) m8)
     exact cX ⟨bO,e4,(List.set (List.set u c.toNat (o,p)) d.toNat (c2,c4)),hm,(Eq.trans (Eq.trans rfl (congrArg (fun n=>zS a n b) (fB a7))) (congrArg (fun n=>zS a n b) (fB e5))),(aCC (hd:=((c2,c4):Dp.Hd GPoint)) (aCC (hd:=((o,p):Dp.Hd GPoint)) b4 a7) e5),m9⟩
    ·exact eK e2 rfl (kB (aM ⟨bO,b7,(List.set u c.toNat (o,p)),hm,(Eq.trans rfl (congrArg (fun n=>zS a n b) (fB a7))),(aCC (hd:=((o,p):Dp.Hd GPoint)) b4 a7),e0⟩))
   refine dR (bD (v:=zP (some ⟨b1,0,none⟩)) (aL (aDD rfl) (aL (eR (t':=0) aLH rfl rfl) (aL (eR (t':=4) fa_35_4 rfl rfl) (aL (vE sc_25 f1 (i:=3) rfl rfl rfl) (bD (v:=str a3) ?_))))));obtain ⟨q3,n0,hm⟩:=aB hm
   refine cI (vs:=[zS a14 a4.length c15,str a3]) call146 rfl (gT n0 f1 h5) ?_
   rintro _ q4 ⟨rfl,h1⟩
   refine cX ?_
   rcases aG hm with ⟨e6,hm⟩|⟨e6,hm⟩
   ·exact dS e6 rfl (eN (cW (v:=str ([116,97,117]:aH)) (cW (v:=zS none 0 0) (cX ⟨bO,([116,97,117]:aH),[],none,0,hm,rfl,rfl,wT _,h1⟩))))
   ·exact eK e6 rfl (kB (aM ⟨bO,a3,c5,a25,c26,hm,rfl,rfl,h8,h1⟩))
 refine eN (bD (v:=str a3) (aL (R_neqS rfl rfl) (bD (v:=zB (!(a3 == ([116,97,117]:aH)))) ?_)))
 rcases aG hm with ⟨l,hm⟩|⟨l,hm⟩
 ·refine aCB l rfl rfl (bD (v:=zP (some ⟨b1,0,none⟩)) (aCB l rfl rfl (aL (aDD rfl) (aCB l rfl rfl (aL (eR (t':=0) aLH rfl rfl) (aCB l rfl rfl (aL (eR (t':=3) fa_35_3 rfl rfl) (aCB l rfl rfl (aL (vE sc_25 hs (i:=3) rfl rfl rfl) (aCB l rfl rfl (bD (v:=str a3) (aCB l rfl rfl ?_))))))))))));obtain ⟨h2,n1,hm⟩:=aB hm
  refine cI (vs:=[zS a11 a6.length c12,str a3]) call146 rfl (gT n1 hs h3) ?_
  rintro _ q5 ⟨rfl,n2⟩
  exact aCB l rfl rfl (aL (R_not rfl) (aL (aSX (v:=zB (!h2)) l rfl rfl) (cX ⟨bO,!h2,hm,rfl,n2⟩)))
 ·exact yW l rfl rfl (yW l rfl rfl (yW l rfl rfl (yW l rfl rfl (yW l rfl rfl (yW l rfl rfl (yW l rfl rfl (yW l rfl rfl (aL (aOR (v:=zB false) l rfl rfl) (cX ⟨bO,false,hm,rfl,hs⟩)))))))))
theorem xP {a b:(List Int)} {R:Bool} (hm:eL a b=some R) (g:aD G K (L) w) (h:aW K a1 c2 a) (i:aW K a4 c5 b):
  Calls prog 148 ([zS a1 a.length c2,zS a4 b.length c5]:List Value).toArray w (cN fun v w'=>v=zB R/\aD G K (L) w'):=by
 refine cC func148 ?_;unfold eL at hm
 refine aC ?_
 rcases aG hm with ⟨c,hm⟩|⟨c,hm⟩
 ·exact aF
 ·refine aC ?_;refine aI [] (fun f w=>oH=some R/\aD G K (L) w) aF ?_
  obtain ⟨j,d,ho⟩:=aB hm
  exact bL [0,1,12] d (fun e f w=>f 13=i64 e/\aD G K (L) w) aF aF
theorem wO {g:(List Definition)} {h:(List aZ)} {j:(List aT)} {k l:(List aH)} {n:(List GPoint)} {b4:(List aN)} {d3:List (Dp.Hd aN)} {e5:(List (aH × Bool))} {e:Nat} {b5 b6:Int} {a b:(List bF)} {R:((List aN) × (List (aH × Bool)))} (hm:pG g h j k l n b4 e5 b5 b6 a b=some R) (hs:aD G K (aJ 105 K a20 c21 (aO d3 b4)::rows [123,2] d3 b4::jO e e5::box b1 149 [zS a2 g.length c3,zS a5 h.length c6,zS a8 j.length c9,zS a11 k.length c12,zS a14 l.length c15,zS a17 n.length c18,zS a20 b4.length c21,zM (some e)]::L) w) (hG:G.lo=0) (h4:aW K a2 c3 g) (h7:aW K a5 c6 h) (e8:aW K a8 c9 j) (e9:aW K a11 c12 k) (f0:aW K a14 c15 l) (h9:aW K a17 c18 n) (l4:List.length d3=List.length b4) (f1:aW K a25 c26 a) (f2:aW K a28 c29 b):
  Calls prog 90 ([zP (some ⟨b1,0,none⟩),i64 b5,i64 b6,zS a25 a.length c26,zS a28 b.length c29]:List Value).toArray w (cN fun v w'=>∃ f3 f4 d5,v=zT #[]/\List.length d5=List.length R.1/\aD G K (aJ 105 K f3 f4 (aO d5 R.1)::rows [123,2] d5 R.1::jO e R.2::box b1 149 [zS a2 g.length c3,zS a5 h.length c6,zS a8 j.length c9,zS a11 k.length c12,zS a14 l.length c15,zS a17 n.length c18,zS f3 R.1.length f4,zM (some e)]::L) w'):=by
 refine iS func90 rfl (by kernel_rfl) (by show (5:Nat)<=77;decide) ?_;unfold pG at hm
 refine dR (bD (v:=zS a25 a.length c26) (aL (vB (len:=a.length) aAQ rfl) (bD (v:=i64 0) (cX (aI [] (fun f w=>∃ b7 f5 f6 f7 d6,lY b7 f5=some R/\List.length d6=List.length b7/\aD G K (aJ 105 K f6 f7 (aO d6 b7)::rows [123,2] d6 b7::jO e f5::box b1 149 [zS a2 g.length c3,zS a5 h.length c6,zS a8 j.length c9,zS a11 k.length c12,zS a14 l.length c15,zS a17 n.length c18,zS f6 b7.length f7,zM (some e)]::L) w) aF ?_)))))
 obtain ⟨l5,i0,ho⟩:=aB hm
 refine nO [0,1,2,4,22,23] i0 (fun a0 d7 b8 f w=>∃ b9 c0 b0,f 24=i64 b8/\List.length b0=List.length a0/\aD G K (aJ 105 K b9 c0 (aO b0 a0)::rows [123,2] b0 a0::jO e d7::box b1 149 [zS a2 g.length c3,zS a5 h.length c6,zS a8 j.length c9,zS a11 k.length c12,zS a14 l.length c15,zS a17 n.length c18,zS b9 a0.length c0,zM (some e)]::L) w) aF ?_
 ·rintro a0 d7 b8 f8 f l6 hm hr ⟨b9,c0,b0,d8,l7,f9⟩
  unfold eY at hm
  refine dR (aL (aFJ d8 rfl) (cX (gG ?_)))
  rcases aG hm with ⟨g0,hm⟩|⟨g0,hm⟩
  ·refine dS g0 rfl (kB (aM (gG (aI [0,1,2,4,22,23,24] (fun f w=>∃ b2 d9 c7 c8 c1,lZ b8 b2 d9=some f8/\List.length c1=List.length b2/\aD G K (aJ 105 K c7 c8 (aO c1 b2)::rows [123,2] c1 b2::jO e d9::box b1 149 [zS a2 g.length c3,zS a5 h.length c6,zS a8 j.length c9,zS a11 k.length c12,zS a14 l.length c15,zS a17 n.length c18,zS c7 b2.length c8,zM (some e)]::L) w) ?_ ?_))))
   ·rintro f l8 ⟨b2,d9,c7,c8,c1,hm,i1,i2⟩
    unfold lZ at hm
    exact aM (eN (aL (nM d8 rfl) (bD (v:=i64 (wr (b8+1))) (cX ⟨_,(zI hm).symm,bO,c7,c8,c1,rfl,i1,i2⟩))))
   refine dR ?_;obtain ⟨c,g1,hm⟩:=aB hm
   refine aL (xT aAQ rfl f1 rfl rfl d8 g1) ?_;obtain ⟨l9,i3,i4⟩:=aW.el (sz:=4) rfl f1 g1
   obtain ⟨p,q,rfl,i5⟩:=i4
   refine aL (pL (t:=0) (vs:=[str c.B,i64 c.Next.Definition,i64 c.Next.Part,zS p c.Next.Values.length q]) aSd f9 i3 rfl rfl rfl) (pM (vs:=[str ([]:aH),i64 0,i64 0,zS none 0 0]) zeroValue155 f9 rfl (fun a3 m0 i6=>(tB (i:=0) (ns:=[str c.B,i64 c.Next.Definition,i64 c.Next.Part,zS p c.Next.Values.length q]) (us:=[str c.B,i64 c.Next.Definition,i64 c.Next.Part,zS p c.Next.Values.length q]) sizeOf155 i6 rfl rfl rfl rfl rfl (xM rfl) rfl rfl (fun i7 (g2:aD G K (box a3 155 [str c.B,i64 c.Next.Definition,i64 c.Next.Part,zS p c.Next.Values.length q]::aJ 105 K b9 c0 (aO b0 a0)::rows [123,2] b0 a0::jO e d7::box b1 149 [zS a2 g.length c3,zS a5 h.length c6,zS a8 j.length c9,zS a11 k.length c12,zS a14 l.length c15,zS a17 n.length c18,zS b9 a0.length c0,zM (some e)]::L) i7)=>(cX (dR (aL (eR (t':=0) aLF rfl rfl) (aL (vE sc_9 g2 (i:=0) rfl rfl rfl) ?_))))))))
   obtain ⟨o,i8,hm⟩:=aB hm
   refine cI (vs:=[str c.B]) call88 rfl (uU i8 g2 hG) ?_
   rintro _ m1 ⟨J,V,rfl,m2⟩
   refine bD (v:=zT #[str o.1,zS J o.2.1.length V,zB o.2.2]) (aL (iM rfl rfl) (aL (iM rfl rfl) (aL (iM rfl rfl) (cW (v:=str o.1) (cW (v:=zS J o.2.1.length V) (cW (v:=zB o.2.2) (cX (dR (bD (v:=zS a28 b.length c29) (aL (vB (len:=b.length) aAQ rfl) (bD (v:=i64 0) (cX (aI [0,1,2,4,22,23,24] (fun f w=>∃ c2 g3 g4 g5 e0,mA b8 c2 g3=some f8/\List.length e0=List.length c2/\aD G K (aJ 105 K g4 g5 (aO e0 c2)::rows [123,2] e0 c2::jO e g3::box b1 149 [zS a2 g.length c3,zS a5 h.length c6,zS a8 j.length c9,zS a11 k.length c12,zS a14 l.length c15,zS a17 n.length c18,zS g4 c2.length g5,zM (some e)]::L) w) aF ?_)))))))))))))
   obtain ⟨m3,i9,ho⟩:=aB hm
   refine nO [0,1,2,4,11,12,13,22,23,24,35,36] i9 (fun m a4 c4 f w=>∃ u x r,f 37=i64 c4/\List.length r=List.length m/\aD G K (aJ 2 K J V o.2.1::box a3 155 [str c.B,i64 c.Next.Definition,i64 c.Next.Part,zS p c.Next.Values.length q]::aJ 105 K u x (aO r m)::rows [123,2] r m::jO e a4::box b1 149 [zS a2 g.length c3,zS a5 h.length c6,zS a8 j.length c9,zS a11 k.length c12,zS a14 l.length c15,zS a17 n.length c18,zS u m.length x,zM (some e)]::L) w) aF ?_
   ·rintro m a4 c4 g6 f m4 hm hr ⟨u,x,r,e1,j0,g7⟩
    unfold eX at hm
    refine dR (aL (aFJ e1 rfl) (cX (gG ?_)))
    rcases aG hm with ⟨g8,hm⟩|⟨g8,hm⟩
    ·refine dS g8 rfl (kB (aM (gG (aI [0,1,2,4,11,12,13,22,23,24,35,36,37] (fun f w=>∃ b3 e2 d0 d1 c5,iF c4 b3 e2=some g6/\List.length c5=List.length b3/\aD G K (aJ 105 K d0 d1 (aO c5 b3)::rows [123,2] c5 b3::aJ 2 K J V o.2.1::box a3 155 [str c.B,i64 c.Next.Definition,i64 c.Next.Part,zS p c.Next.Values.length q]::jO e e2::box b1 149 [zS a2 g.length c3,zS a5 h.length c6,zS a8 j.length c9,zS a11 k.length c12,zS a14 l.length c15,zS a17 n.length c18,zS d0 b3.length d1,zM (some e)]::L) w) ?_ ?_))))
     ·rintro f m5 ⟨b3,e2,d0,d1,c5,hm,j1,j2⟩
      unfold iF at hm
      exact aM (eN (aL (nM e1 rfl) (bD (v:=i64 (wr (c4+1))) (cX ⟨_,(zI hm).symm,bO,d0,d1,c5,rfl,j1,(aD.arr 4 [2,3,0,1] j2 rfl)⟩))))
     refine dR ?_;obtain ⟨d,g9,hm⟩:=aB hm
     refine aL (xT aAQ rfl f2 rfl rfl e1 g9) ?_;obtain ⟨m6,j3,j4⟩:=aW.el (sz:=4) rfl f2 g9
     obtain ⟨y,z,rfl,j5⟩:=j4
     refine aL (pL (t:=0) (vs:=[str d.B,i64 d.Next.Definition,i64 d.Next.Part,zS y d.Next.Values.length z]) aSd g7 j3 rfl rfl rfl) (pM (vs:=[str ([]:aH),i64 0,i64 0,zS none 0 0]) zeroValue155 g7 rfl (fun d2 m7 j6=>(tB (i:=0) (ns:=[str d.B,i64 d.Next.Definition,i64 d.Next.Part,zS y d.Next.Values.length z]) (us:=[str d.B,i64 d.Next.Definition,i64 d.Next.Part,zS y d.Next.Values.length z]) sizeOf155 j6 rfl rfl rfl rfl rfl (xM rfl) rfl rfl (fun j7 (h0:aD G K (box d2 155 [str d.B,i64 d.Next.Definition,i64 d.Next.Part,zS y d.Next.Values.length z]::aJ 2 K J V o.2.1::box a3 155 [str c.B,i64 c.Next.Definition,i64 c.Next.Part,zS p c.Next.Values.length q]::aJ 105 K u x (aO r m)::rows [123,2] r m::jO e a4::box b1 149 [zS a2 g.length c3,zS a5 h.length c6,zS a8 j.length c9,zS a11 k.length c12,zS a14 l.length c15,zS a17 n.length c18,zS u m.length x,zM (some e)]::L) j7)=>(cX (dR (aL (eR (t':=0) aLF rfl rfl) (aL (vE sc_9 h0 (i:=0) rfl rfl rfl) ?_))))))))
     obtain ⟨a1,j8,hm⟩:=aB hm
     refine cI (vs:=[str d.B]) call88 rfl (uU j8 h0 hG) ?_
     rintro _ m8 ⟨h1,h2,rfl,h3⟩
     refine bD (v:=zT #[str a1.1,zS h1 a1.2.1.length h2,zB a1.2.2]) (aL (iM rfl rfl) (aL (iM rfl rfl) (aL (iM rfl rfl) (cW (v:=str a1.1) (cW (v:=zS h1 a1.2.1.length h2) (cW (v:=zB a1.2.2) (cX (dR (bD (v:=zP (some ⟨b1,0,none⟩)) (aL (aDD rfl) (aL (eR (t':=0) aLH rfl rfl) (aL (aFr (us:=[zS a2 g.length c3,zS a5 h.length c6,zS a8 j.length c9,zS a11 k.length c12,zS a14 l.length c15]) ag_35 h3 (i:=7) rfl rfl rfl rfl) (bD (v:=str o.1) (bD (v:=str a1.1) ?_))))))))))))))
     obtain ⟨a6,j9,hm⟩:=aB hm
     refine cI (vs:=[zA #[zS a2 g.length c3,zS a5 h.length c6,zS a8 j.length c9,zS a11 k.length c12,zS a14 l.length c15],str o.1,str a1.1]) call147 rfl (aAP (s_:=⟨g,h,j,k,l⟩) j9 h3 h4 h7 e8 e9 f0) ?_
     rintro _ m9 ⟨rfl,n0⟩
     refine bD (v:=zT #[str a6.1,zB a6.2]) (aL (iM rfl rfl) (aL (iM rfl rfl) (cW (v:=str a6.1) (cW (v:=zB a6.2) (cX (gG (bC [0,1,2,4,11,12,13,16,20,22,23,24,35,36,37] (fun f w=>∃ e3,eW g h j k l n b5 b6 c o m a4 c4 d a6 e3=some g6/\f 63=zB e3/\aD G K (box d2 155 [str d.B,i64 d.Next.Definition,i64 d.Next.Part,zS y d.Next.Values.length z]::aJ 2 K J V o.2.1::box a3 155 [str c.B,i64 c.Next.Definition,i64 c.Next.Part,zS p c.Next.Values.length q]::aJ 105 K u x (aO r m)::rows [123,2] r m::jO e a4::box b1 149 [zS a2 g.length c3,zS a5 h.length c6,zS a8 j.length c9,zS a11 k.length c12,zS a14 l.length c15,zS a17 n.length c18,zS u m.length x,zM (some e)]::L) w) ?_ ?_)))))))
     ·rintro f n1 ⟨e3,hm,k0,e4⟩
      unfold eW at hm
      refine aM ?_
      rcases aG hm with ⟨h5,hm⟩|⟨h5,hm⟩
      ·refine dS h5 k0 (eN (bD (v:=zP (some ⟨b1,0,none⟩)) (bD (v:=str a6.1) (bD (v:=zS J o.2.1.length V) (bD (v:=i64 b5) (bD (v:=i64 b6) (aL (eR (t':=1) aLG rfl rfl) (aL (aFr (us:=[i64 c.Next.Definition,i64 c.Next.Part,zS p c.Next.Values.length q]) xN e4 (i:=2) rfl rfl rfl rfl) (aL (eR (t':=1) aLG rfl rfl) (aL (aFr (us:=[i64 d.Next.Definition,i64 d.Next.Part,zS y d.Next.Values.length z]) xN e4 (i:=0) rfl rfl rfl rfl) (fQ (Kt:=K) (xs:=([c.Next,d.Next]:List GPoint)) (cs:=[i64 c.Next.Definition,i64 c.Next.Part,zS p c.Next.Values.length q,i64 d.Next.Definition,i64 d.Next.Part,zS y d.Next.Values.length z]) (vs:=[(0,zA #[i64 c.Next.Definition,i64 c.Next.Part,zS p c.Next.Values.length q]),(1,zA #[i64 d.Next.Definition,i64 d.Next.Part,zS y d.Next.Values.length z])]) jQ oT rfl rfl e4 rfl (by kernel_rfl) rfl rfl rfl ⟨⟨p,q,rfl,i5⟩,⟨y,z,rfl,j5⟩,trivial⟩ (fun h6 h8 (k1:aD G K (aJ 123 K h6 2 ([c.Next,d.Next]:List GPoint)::box d2 155 [str d.B,i64 d.Next.Definition,i64 d.Next.Part,zS y d.Next.Values.length z]::aJ 2 K J V o.2.1::box a3 155 [str c.B,i64 c.Next.Definition,i64 c.Next.Part,zS p c.Next.Values.length q]::aJ 105 K u x (aO r m)::rows [123,2] r m::jO e a4::box b1 149 [zS a2 g.length c3,zS a5 h.length c6,zS a8 j.length c9,zS a11 k.length c12,zS a14 l.length c15,zS a17 n.length c18,zS u m.length x,zM (some e)]::L) h8)=>?_))))))))))))
       obtain ⟨n2,a7,k2,k3,k4⟩:=aD.lendSp k1 (zR _) zt2
       obtain ⟨k5,a9,k6,k7,k8⟩:=aD.lendSp k3 a7 .head
       have k9:aD G k5 (aJ 105 K u x (aO r m)::rows [123,2] r m::jO e a4::box b1 149 [zS a2 g.length c3,zS a5 h.length c6,zS a8 j.length c9,zS a11 k.length c12,zS a14 l.length c15,zS a17 n.length c18,zS u m.length x,zM (some e)]::box d2 155 [str d.B,i64 d.Next.Definition,i64 d.Next.Part,zS y d.Next.Values.length z]::box a3 155 [str c.B,i64 c.Next.Definition,i64 c.Next.Part,zS p c.Next.Values.length q]::L) h8:=(aD.arr 6 [2,3,4,5,0,1] k7 rfl)
       obtain ⟨n3,l0,hm⟩:=aB hm
       refine cI (vs:=[zP (some ⟨b1,0,none⟩),str a6.1,zS J o.2.1.length V,i64 b5,i64 b6,zS h6 ([c.Next,d.Next]:List GPoint).length 2]) call89 rfl (uA l0 k9 hG (h4.mono (zL a7 a9)) (h7.mono (zL a7 a9)) (e8.mono (zL a7 a9)) (e9.mono (zL a7 a9)) (f0.mono (zL a7 a9)) (h9.mono (zL a7 a9)) j0 (k2.mono a9) k6) ?_
       rintro _ n4 ⟨n5,n6,n7,rfl,n8,l1⟩
       have l2:=k8 _ _ l1
       have n9:=k4 _ _ l2
       exact aF
      ·exact aF
     exact aF
    ·exact aF
  ·exact aF
theorem aCz {s_:aR} {b:(List GPoint)} {R:((List aN) × Bool)} (hm:fR s_ b=some R) (hs:aD G K (L) w) (hG:G.lo=0) (h3:aW K a1 c2 s_.Definitions) (h6:aW K a4 c5 s_.Components) (h9:aW K a7 c8 s_.Meetings) (h8:aW K a10 c11 s_.Allowed) (i0:aW K a13 c14 s_.Hidden) (f9:aW K a16 c17 b):
  Calls prog 49 ([zA #[zS a1 s_.Definitions.length c2,zS a4 s_.Components.length c5,zS a7 s_.Meetings.length c8,zS a10 s_.Allowed.length c11,zS a13 s_.Hidden.length c14],zS a16 b.length c17]:List Value).toArray w (cN fun v w'=>∃ i1 i2 g0,v=zT #[zS i1 R.1.length i2,zB R.2]/\List.length g0=List.length R.1/\aD G K (aJ 105 K i1 i2 (aO g0 R.1)::rows [123,2] g0 R.1::L) w'):=by
 let k:=[zS a1 s_.Definitions.length c2,zS a4 s_.Components.length c5,zS a7 s_.Meetings.length c8,zS a10 s_.Allowed.length c11,zS a13 s_.Hidden.length c14]
 let i3:=aJ 105 K none 0 (aO ([]:List (Dp.Hd aN)) ([]:List aN))
 refine cC func49 ?_;unfold fR at hm
 refine aC ?_;refine sL fun l q7 k4=>?_
 refine aC ?_;refine aPb aH Bool k4 ?_
 intro a k5 (q8:aD G K (jO a ([]:(List (aH × Bool)))::box l 35 k::L) k5)
 refine aL (gW (vs:=[(0,zA #[zS a1 s_.Definitions.length c2,zS a4 s_.Components.length c5,zS a7 s_.Meetings.length c8,zS a10 s_.Allowed.length c11,zS a13 s_.Hidden.length c14]),(1,zS a16 b.length c17),(3,zM (some a))]) (cs:=[zS a1 s_.Definitions.length c2,zS a4 s_.Components.length c5,zS a7 s_.Meetings.length c8,zS a10 s_.Allowed.length c11,zS a13 s_.Hidden.length c14,zS a16 b.length c17,zS none 0 0,zM (some a)]) bs_149 rfl (by kernel_rfl)) (sL fun c k6 k7=>?_)
 refine aC ?_;refine aI [1,6] (fun f w=>∃ j b0 g1 x g2 g3 d8 V a0,Hp.le K j/\jM s_ b b0 g1 x=some R/\f 7=zS V x.length a0/\List.length d8=List.length b0/\aD G j (aJ 151 j V a0 x::aJ 105 K g2 g3 (aO d8 b0)::rows [123,2] d8 b0::box c 149 [zS a1 s_.Definitions.length c2,zS a4 s_.Components.length c5,zS a7 s_.Meetings.length c8,zS a10 s_.Allowed.length c11,zS a13 s_.Hidden.length c14,zS a16 b.length c17,zS g2 b0.length g3,zM (some a)]::jO a g1::L) w) ?_ ?_
 ·rintro f q9 ⟨j,b0,g1,x,g2,g3,d8,V,a0,b1,hm,r0,r1,r2⟩
  unfold jM at hm
  refine aC ?_;refine aI [6] (fun f w=>∃ c3 i4 i5 i6 g4,aAw c3 i4=some R/\List.length g4=List.length c3/\aD G j (aJ 105 K i5 i6 (aO g4 c3)::rows [123,2] g4 c3::box c 149 [zS a1 s_.Definitions.length c2,zS a4 s_.Components.length c5,zS a7 s_.Meetings.length c8,zS a10 s_.Allowed.length c11,zS a13 s_.Hidden.length c14,zS a16 b.length c17,zS i5 c3.length i6,zM (some a)]::jO a i4::L) w) aF ?_
  obtain ⟨r3,k8,ho⟩:=aB hm
  refine nO [1,6,7,68] k8 (fun c4 i7 d9 f w=>∃ g5 g6 e0,f 69=i64 d9/\List.length e0=List.length c4/\aD G j (aJ 151 j V a0 x::aJ 105 K g5 g6 (aO e0 c4)::rows [123,2] e0 c4::box c 149 [zS a1 s_.Definitions.length c2,zS a4 s_.Components.length c5,zS a7 s_.Meetings.length c8,zS a10 s_.Allowed.length c11,zS a13 s_.Hidden.length c14,zS a16 b.length c17,zS g5 c4.length g6,zM (some a)]::jO a i7::L) w) aF ?_
  ·rintro c4 i7 d9 i8 f r4 hm hr ⟨g5,g6,e0,r5,r6,r7⟩
   unfold jL at hm
   refine aC ?_
   rcases aG hm with ⟨k9,hm⟩|⟨k9,hm⟩
   ·refine aC ?_;refine aI [1,6,7,68,69] (fun f w=>∃ b2 g7 e1 e2 c6,sU d9 b2 g7=some i8/\List.length c6=List.length b2/\aD G j (aJ 105 K e1 e2 (aO c6 b2)::rows [123,2] c6 b2::aJ 151 j V a0 x::box c 149 [zS a1 s_.Definitions.length c2,zS a4 s_.Components.length c5,zS a7 s_.Meetings.length c8,zS a10 s_.Allowed.length c11,zS a13 s_.Hidden.length c14,zS a16 b.length c17,zS e1 b2.length e2,zM (some a)]::jO a g7::L) w) ?_ ?_
    ·rintro f r8 ⟨b2,g7,e1,e2,c6,hm,l0,r9⟩
     unfold sU at hm
     refine aC ?_;exact ⟨_,(zI hm).symm,bO,e1,e2,c6,rfl,l0,nC⟩
    refine aC ?_;refine aI [1,6,7,68,69] (fun f w=>∃ c7 i9 j0 j1 g8,sV d9 c7 i9=some i8/\List.length g8=List.length c7/\aD G j (aJ 105 K j0 j1 (aO g8 c7)::rows [123,2] g8 c7::aJ 151 j V a0 x::box c 149 [zS a1 s_.Definitions.length c2,zS a4 s_.Components.length c5,zS a7 s_.Meetings.length c8,zS a10 s_.Allowed.length c11,zS a13 s_.Hidden.length c14,zS a16 b.length c17,zS j0 c7.length j1,zM (some a)]::jO a i9::L) w) aF ?_
    obtain ⟨s0,l1,ho⟩:=aB hm
    refine nO [1,6,7,17,68,69] l1 (fun y g9 j2 f w=>∃ c9 d0 b3,f 18=i64 j2/\List.length b3=List.length y/\aD G j (aJ 151 j V a0 x::aJ 105 K c9 d0 (aO b3 y)::rows [123,2] b3 y::box c 149 [zS a1 s_.Definitions.length c2,zS a4 s_.Components.length c5,zS a7 s_.Meetings.length c8,zS a10 s_.Allowed.length c11,zS a13 s_.Hidden.length c14,zS a16 b.length c17,zS c9 y.length d0,zM (some a)]::jO a g9::L) w) aF ?_
    ·rintro y g9 j2 s1 f s2 hm hr ⟨c9,d0,b3,s3,l2,l3⟩
     unfold iL at hm
     refine aC ?_
     rcases aG hm with ⟨l4,hm⟩|⟨l4,hm⟩
     ·refine aC ?_;refine bI ?_
      obtain ⟨l5,b4,h0,s4,l6⟩:=aD.lendSp l3 (zR _) .head
      refine aKG [(0,0),(1,0),(2,0),(3,0),(4,0),(5,0),(6,0),(7,0),(8,0),(9,0),(10,0),(11,1)] fun l7 s5=>?_;refine aC ?_
      obtain ⟨s6,h1,hm⟩:=aB hm
      have j3:=aLy h0 h1
      refine fM rfl (fun _ _=>dG vC rfl j3 rfl rfl rfl h1) ?_;obtain ⟨s7,s8,l8⟩:=aW.el (sz:=1) rfl h0 h1
      obtain ⟨s9,t0,rfl,l9⟩:=l8
      refine aC ?_;obtain ⟨t1,j4,hm⟩:=aB hm
      refine fM rfl (fun _ _=>dG vC rfl j3 rfl rfl rfl j4) ?_;obtain ⟨t2,t3,m0⟩:=aW.el (sz:=1) rfl h0 j4
      obtain ⟨t4,t5,rfl,m1⟩:=m0
      refine aC ?_;refine lM rfl ?_
      have m2:aD G l5 (aJ 105 K c9 d0 (aO b3 y)::rows [123,2] b3 y::jO a g9::box c 149 [zS a1 s_.Definitions.length c2,zS a4 s_.Components.length c5,zS a7 s_.Meetings.length c8,zS a10 s_.Allowed.length c11,zS a13 s_.Hidden.length c14,zS a16 b.length c17,zS c9 y.length d0,zM (some a)]::L) l7:=nC
      obtain ⟨t6,m3,hm⟩:=aB hm
      refine dQ call90 (wO m3 m2 hG (h3.mono (zL b1 b4)) (h6.mono (zL b1 b4)) (h9.mono (zL b1 b4)) (h8.mono (zL b1 b4)) (i0.mono (zL b1 b4)) (f9.mono (zL b1 b4)) l2 l9 m1) ?_
      rintro _ t7 ⟨t8,t9,u0,rfl,u1,j5⟩
      refine bQ (aM ⟨⟨_,j5⟩,?_⟩)
      refine yX ?_
      have u2:=l6 _ _ j5
      exact aF
     ·exact aF
   ·exact aF
 have m4:aD G K (i3::rows [123,2] ([]:List (Dp.Hd aN)) ([]:List aN)::box c 149 [zS a1 s_.Definitions.length c2,zS a4 s_.Components.length c5,zS a7 s_.Meetings.length c8,zS a10 s_.Allowed.length c11,zS a13 s_.Hidden.length c14,zS a16 b.length c17,zS none 0 0,zM (some a)]::jO a ([]:(List (aH × Bool)))::box l 35 k::L) k6:=aD.nil (α:=Cells _) (aD.rowsNil (α:=aN) (tys:=[123,2]) k7) 105 K
 have m5:=aD.nil (α:=(List bF)) m4 151 K
 obtain ⟨u3,m6,ho⟩:=aB hm
 refine aIc [1,2,6,24,25] m6 (fun d b5 b6 e3 f w=>∃ z o p m b7 b8,Hp.le K z/\f 7=zS b7 b6.length b8/\f 26=i64 e3/\List.length m=List.length d/\aD G z (aJ 151 z b7 b8 b6::aJ 105 K o p (aO m d)::rows [123,2] m d::box c 149 [zS a1 s_.Definitions.length c2,zS a4 s_.Components.length c5,zS a7 s_.Meetings.length c8,zS a10 s_.Allowed.length c11,zS a13 s_.Hidden.length c14,zS a16 b.length c17,zS o d.length p,zM (some a)]::jO a b5::box l 35 k::L) w) ?_ ?_
 ·exact ⟨K,none,0,[],none,0,(zR _),rfl,rfl,rfl,m5⟩
 ·rintro d b5 b6 e3 j6 f u4 hm hr ⟨z,o,p,m,b7,b8,r,u5,u6,u7,u8⟩
  unfold hQ at hm
  refine aC ?_
  rcases aG hm with ⟨m7,hm⟩|⟨m7,hm⟩
  ·refine aC ?_;refine aI [1,2,6,24,25,26] (fun f w=>∃ d1 b9 h2 e4 e5 e6 d2 e7 e8,Hp.le z d1/\sW e3 b9 h2 e4=some j6/\f 7=zS e7 e4.length e8/\List.length d2=List.length b9/\aD G d1 (aJ 151 d1 e7 e8 e4::aJ 105 K e5 e6 (aO d2 b9)::rows [123,2] d2 b9::box c 149 [zS a1 s_.Definitions.length c2,zS a4 s_.Components.length c5,zS a7 s_.Meetings.length c8,zS a10 s_.Allowed.length c11,zS a13 s_.Hidden.length c14,zS a16 b.length c17,zS e5 b9.length e6,zM (some a)]::jO a h2::box l 35 k::L) w) ?_ ?_
   ·rintro f u9 ⟨d1,b9,h2,e4,e5,e6,d2,e7,e8,m8,hm,m9,n0,n1⟩
    unfold sW at hm
    refine aC ?_;exact ⟨_,(zI hm).symm,bO,d1,e5,e6,d2,e7,e8,(zL r m8),m9,rfl,n0,n1⟩
   refine aC ?_;obtain ⟨n,n2,hm⟩:=aB hm
   refine aC ?_;obtain ⟨v0,v1,n3⟩:=aW.el (sz:=3) rfl f9 n2
   obtain ⟨e9,f0,rfl,n4⟩:=n3
   refine aC ?_;refine pO fun f1 v2 v3=>?_
   refine aC ?_;refine nB fun v4 n5=>?_
   refine aC ?_;obtain ⟨d3,n6,hm⟩:=aB hm
   refine dQ call87 (aMo n6 n5 hG (h3.mono r) (n4.mono r)) ?_
   rintro _ j7 ⟨j8,f2,f3,rfl,t,j9⟩
   refine aC ?_
   rcases aG hm with ⟨n7,hm⟩|⟨n7,hm⟩
   ·refine aC ?_;refine aDC (dX (kS (dX (dX (dX ?_)))))
    have n8:=hr _ (zI hm).symm
    subst n8
    have hm:(some ([],false))=some R:=ho
    clear hr ho
    have v5:aD G j8 (i3::rows [123,2] ([]:List (Dp.Hd aN)) ([]:List aN)::aJ 155 j8 f2 f3 d3.1::box f1 123 [i64 n.Definition,i64 n.Part,zS e9 n.Values.length f0]::aJ 151 z b7 b8 b6::aJ 105 K o p (aO m d)::rows [123,2] m d::box c 149 [zS a1 s_.Definitions.length c2,zS a4 s_.Components.length c5,zS a7 s_.Meetings.length c8,zS a10 s_.Allowed.length c11,zS a13 s_.Hidden.length c14,zS a16 b.length c17,zS o d.length p,zM (some a)]::jO a b5::box l 35 k::L) j7:=aD.nil (α:=Cells _) (aD.rowsNil (α:=aN) (tys:=[123,2]) j9) 105 K
    obtain rfl:=zI hm
    exact kS (dX (dX (aOQ results49 rfl rfl ⟨none,0,([]:List (Dp.Hd aN)),rfl,rfl,nC⟩)))
   ·refine aC ?_;obtain ⟨e,u,k0,h4⟩:=aD.giveSp j9 (zR _) .head
    replace h4:aD G e (box f1 123 [i64 n.Definition,i64 n.Part,zS e9 n.Values.length f0]::aJ 151 z b7 b8 b6::aJ 105 K o p (aO m d)::rows [123,2] m d::box c 149 [zS a1 s_.Definitions.length c2,zS a4 s_.Components.length c5,zS a7 s_.Meetings.length c8,zS a10 s_.Allowed.length c11,zS a13 s_.Hidden.length c14,zS a16 b.length c17,zS o d.length p,zM (some a)]::jO a b5::box l 35 k::L) j7:=h4
    refine fQ (Kt:=e) (xs:=([d3.1]:List (List bF))) (cs:=[zS f2 d3.1.length f3]) (vs:=[(0,zS f2 d3.1.length f3)]) vC aNf rfl rfl h4 rfl (by kernel_rfl) rfl rfl rfl ⟨⟨f2,f3,rfl,k0⟩,trivial⟩ (fun o0 o1 (o2:aD G e (aJ 151 e o0 1 ([d3.1]:List (List bF))::box f1 123 [i64 n.Definition,i64 n.Part,zS e9 n.Values.length f0]::aJ 151 z b7 b8 b6::aJ 105 K o p (aO m d)::rows [123,2] m d::box c 149 [zS a1 s_.Definitions.length c2,zS a4 s_.Components.length c5,zS a7 s_.Meetings.length c8,zS a10 s_.Allowed.length c11,zS a13 s_.Hidden.length c14,zS a16 b.length c17,zS o d.length p,zM (some a)]::jO a b5::box l 35 k::L) o1)=>?_)
    obtain ⟨a2,o3,hm⟩:=aB hm
    refine sO (i:=1) e vC underlying150 aNf rfl rfl o2 rfl (zL t u) (zR _) o3 rfl rfl rfl rfl (fun _ _ _ h=>El.one h) (fun c0 c1 o4 (v6:aD G e (box f1 123 [i64 n.Definition,i64 n.Part,zS e9 n.Values.length f0]::aJ 151 e c0 c1 a2::aJ 105 K o p (aO m d)::rows [123,2] m d::box c 149 [zS a1 s_.Definitions.length c2,zS a4 s_.Components.length c5,zS a7 s_.Meetings.length c8,zS a10 s_.Allowed.length c11,zS a13 s_.Hidden.length c14,zS a16 b.length c17,zS o d.length p,zM (some a)]::jO a b5::box l 35 k::L) o4)=>(aC ?_))
    refine aI [1,2,6,7,24,25,26] (fun f w=>∃ a3 f4 f5 f6 d4,oI e3 a2 a3 f4=some j6/\List.length d4=List.length a3/\aD G e (aJ 105 K f5 f6 (aO d4 a3)::rows [123,2] d4 a3::aJ 151 e c0 c1 a2::box c 149 [zS a1 s_.Definitions.length c2,zS a4 s_.Components.length c5,zS a7 s_.Meetings.length c8,zS a10 s_.Allowed.length c11,zS a13 s_.Hidden.length c14,zS a16 b.length c17,zS f5 a3.length f6,zM (some a)]::jO a f4::box l 35 k::L) w) ?_ ?_
    ·rintro f v7 ⟨a3,f4,f5,f6,d4,hm,o5,v8⟩
     unfold oI at hm
     refine aC ?_;exact ⟨bO,e,a3,f4,a2,f5,f6,d4,c0,c1,(zL t u),hm,rfl,o5,nC⟩
    obtain ⟨v9,o6,ho⟩:=aB hm
    refine nO [1,2,6,7,8,24,25,26,44,45] o6 (fun q f7 k1 f w=>∃ a5 a6 J,f 46=i64 k1/\List.length J=List.length q/\aD G e (aJ 151 e c0 c1 a2::aJ 105 K a5 a6 (aO J q)::rows [123,2] J q::box c 149 [zS a1 s_.Definitions.length c2,zS a4 s_.Components.length c5,zS a7 s_.Meetings.length c8,zS a10 s_.Allowed.length c11,zS a13 s_.Hidden.length c14,zS a16 b.length c17,zS a5 q.length a6,zM (some a)]::jO a f7::box l 35 k::L) w) aF ?_
    ·rintro q f7 k1 w0 f w1 hm hr ⟨a5,a6,J,w2,o7,w3⟩
     unfold lF at hm
     refine aC ?_
     rcases aG hm with ⟨o8,hm⟩|⟨o8,hm⟩
     ·refine aC ?_;refine bI (aC ?_)
      obtain ⟨g,o9,hm⟩:=aB hm
      refine aC ?_;obtain ⟨w4,w5,p0⟩:=aW.el (sz:=4) rfl k0 o9
      obtain ⟨d5,d6,rfl,p1⟩:=p0
      refine aC ?_;refine pO fun k2 w6 w7=>?_
      refine nB fun w8 p2=>?_;refine aC ?_
      obtain ⟨p3,p4,hm⟩:=aB hm
      refine dQ call88 (uU p4 p2 hG) ?_
      rintro _ w9 ⟨p5,p6,rfl,p7⟩
      refine aC ?_;refine fQ (Kt:=e) (xs:=([g.Next]:List GPoint)) (cs:=[i64 g.Next.Definition,i64 g.Next.Part,zS d5 g.Next.Values.length d6]) (vs:=[(0,zA #[i64 g.Next.Definition,i64 g.Next.Part,zS d5 g.Next.Values.length d6])]) jQ oT rfl rfl p7 rfl (by kernel_rfl) rfl rfl rfl ⟨⟨d5,d6,rfl,p1⟩,trivial⟩ (fun p8 k3 (p9:aD G e (aJ 123 e p8 1 ([g.Next]:List GPoint)::aJ 2 K p5 p6 p3.2.1::box k2 155 [str g.B,i64 g.Next.Definition,i64 g.Next.Part,zS d5 g.Next.Values.length d6]::aJ 151 e c0 c1 a2::aJ 105 K a5 a6 (aO J q)::rows [123,2] J q::box c 149 [zS a1 s_.Definitions.length c2,zS a4 s_.Components.length c5,zS a7 s_.Meetings.length c8,zS a10 s_.Allowed.length c11,zS a13 s_.Hidden.length c14,zS a16 b.length c17,zS a5 q.length a6,zM (some a)]::jO a f7::box l 35 k::L) k3)=>?_)
      obtain ⟨x0,a8,q0,q1,x1⟩:=aD.lendSp p9 (zL (zL r t) u) zt1
      obtain ⟨q2,a9,q3,x2,x3⟩:=aD.lendSp q1 a8 .head
      have q4:aD G q2 (aJ 105 K a5 a6 (aO J q)::rows [123,2] J q::jO a f7::box c 149 [zS a1 s_.Definitions.length c2,zS a4 s_.Components.length c5,zS a7 s_.Meetings.length c8,zS a10 s_.Allowed.length c11,zS a13 s_.Hidden.length c14,zS a16 b.length c17,zS a5 q.length a6,zM (some a)]::box k2 155 [str g.B,i64 g.Next.Definition,i64 g.Next.Part,zS d5 g.Next.Values.length d6]::aJ 151 e c0 c1 a2::box l 35 k::L) k3:=nC
      obtain ⟨x4,q5,hm⟩:=aB hm
      exact dQ call89 (uA q5 q4 hG (h3.mono (zL (zL (zL (zL r t) u) a8) a9)) (h6.mono (zL (zL (zL (zL r t) u) a8) a9)) (h9.mono (zL (zL (zL (zL r t) u) a8) a9)) (h8.mono (zL (zL (zL (zL r t) u) a8) a9)) (i0.mono (zL (zL (zL (zL r t) u) a8) a9)) (f9.mono (zL (zL (zL (zL r t) u) a8) a9)) o7 (q0.mono a9) q3) aF
     ·exact aF
  ·exact aF
end Gv
