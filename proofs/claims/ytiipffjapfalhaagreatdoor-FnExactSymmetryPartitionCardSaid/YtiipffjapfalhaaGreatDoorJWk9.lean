/- Walks, printed by program. -/
import Derived.Test.YtiipffjapfalhaaGreatDoorJWk7
set_option linter.all false
namespace Gv
open Gv.Hp renaming le_refl→zR
open Go.Value renaming slice→zS,bool→zB,pointer→zP,agg→zA,tuple→zT,map→zM
open Option.some renaming inj→zI
open Gv.Hp renaming le_trans→zL
open Go Go.Proofs Go.Proofs.Tryz
set_option maxRecDepth 20000
set_option maxHeartbeats 40000000
variable {G:nX} {K Kf:Hp} {L:List fJ} {w:World} {a1 a3 a4 a2 a5 a8 a7 a10 a13 a11 a14 a17 a20 a25 a28:Option Addr} {c2 c4 c5 b1 c3 c6 c9 c8 c11 c14 c12 c15 c18 c21 c26 c29:Nat}
theorem aPh {e:(List aW)} {R:((Tr aW) × (List aW))} (hm:aLv e=some R) (hs:aF G K (L) w) (h3:bK K a1 c2 e):
  Calls prog 299 ([zS a1 e.length c2]:List Value).toArray w (dD fun v w'=>∃ K' ra1 ra2 rc2,v=zT #[dS ra1 0,zS ra2 R.2.length rc2]/\Hp.le K K'/\trd K' R.1 ra1/\bK K' ra2 rc2 R.2/\aF G K' (L) w'):=aFK 100000 hm hs h3
theorem aUC {e:(List aW)} {R:(Tr aW)} (hm:i_tree e=some R) (c:aF G K (L) w) (d:bK K a1 c2 e):
  Calls prog 271 ([zS a1 e.length c2]:List Value).toArray w (dD fun v w'=>∃ a b,v=dS b 0/\Hp.le K a/\trd a R b/\aF G a (L) w'):=by
 exact aL
theorem aTj {is:Bool} {R:Int} (hm:aAN is=some R) (a:aF G K (L) w):
  Calls prog 300 ([zB is]:List Value).toArray w (dD fun v w'=>v=i64 R/\aF G K (L) w'):=by
 exact aL
theorem aQu {op a b R:Int} (hm:aKl op a b=some R) (n:aF G K (L) w):
  Calls prog 301 ([i64 op,i64 a,i64 b]:List Value).toArray w (dD fun v w'=>v=i64 R/\aF G K (L) w'):=by
 refine aBe func301 ?_;unfold aKl at hm
 refine tD ?_;refine bT (tD ?_)
 rcases aM hm with ⟨e,hm⟩|⟨e,hm⟩
 ·exact aL
 ·refine tD ?_
  rcases aM hm with ⟨g,hm⟩|⟨g,hm⟩
  ·exact aL
  ·refine tD ?_
   rcases aM hm with ⟨h,hm⟩|⟨h,hm⟩
   ·exact aL
   ·refine tD ?_
    rcases aM hm with ⟨i,hm⟩|⟨i,hm⟩
    ·exact aL
    ·refine tD ?_
     rcases aM hm with ⟨j,hm⟩|⟨j,hm⟩
     ·exact aL
     ·refine tD ?_
      rcases aM hm with ⟨k,hm⟩|⟨k,hm⟩
      ·exact aL
      ·refine tD ?_
       rcases aM hm with ⟨l,hm⟩|⟨l,hm⟩
       ·exact aL
       ·refine tD ?_
        rcases aM hm with ⟨m,hm⟩|⟨m,hm⟩
        ·iterate 2 refine aBL ?_
         exact bQ [] (fun f w=>∃ c,aHv c=some R/\f 6=i64 c/\aF G K (L) w) aL aL
        ·iterate 5 refine aBL ?_
         exact bQ [] (fun f w=>∃ d,aHw d=some R/\f 6=i64 d/\aF G K (L) w) aL aL
theorem aDm {rec_:(Tr aW)->(List Int)->Option Int} (d:∀ {G:nX} {K:Hp} {L:List fJ} {w:World} {x_:(Tr aW)} {a1:Option Addr} {a:(List Int)} {a3:Option Addr} {c4:Nat} {R:Int} (hm:rec_ x_ a=some R) (b:aF G K (L) w) (g:trd K x_ a1) (c:bK K a3 c4 a),
  Calls prog 272 ([dS a1 0,zS a3 a.length c4]:List Value).toArray w (dD fun v w'=>v=i64 R/\aF G K (L) w'))
  {G:nX} {K:Hp} {L:List fJ} {w:World} {x_:(Tr aW)} {a1:Option Addr} {a:(List Int)} {a3:Option Addr} {c4:Nat} {R:Int} (hm:jV rec_ x_ a=some R) (b:aF G K (L) w) (g:trd K x_ a1) (c:bK K a3 c4 a):
  Calls prog 272 ([dS a1 0,zS a3 a.length c4]:List Value).toArray w (dD fun v w'=>v=i64 R/\aF G K (L) w'):=by
 refine aBe func272 ?_;unfold jV at hm
 refine tD ?_;obtain ⟨i,j,h,e⟩:=trd.el g
 replace h:eU K a1 0 [i64 x_.val.Kind,i64 x_.val.Value,zS i x_.kids.length j]:=h
 refine tD ?_;refine bT (tD ?_)
 rcases aM hm with ⟨k,hm⟩|⟨k,hm⟩
 ·exact aL
 ·refine tD ?_
  rcases aM hm with ⟨l,hm⟩|⟨l,hm⟩
  ·exact aL
  ·refine tD ?_
   rcases aM hm with ⟨m,hm⟩|⟨m,hm⟩
   ·refine tD ?_;obtain ⟨a7,n,hm⟩:=aB hm
    refine tD ?_;obtain ⟨a8,a9,o⟩:=bK.el (sz:=1) rfl e n
    obtain ⟨b0,rfl,p⟩:=o
    refine tD ?_;obtain ⟨b1,q,hm⟩:=aB hm
    exact aCO call272 (d q b p c) aL
   ·refine tD ?_;refine aRj ?_
    refine tD ?_;obtain ⟨b2,r,hm⟩:=aB hm
    refine tD ?_;obtain ⟨b3,b4,t⟩:=bK.el (sz:=1) rfl e r
    obtain ⟨u,rfl,x⟩:=t
    refine tD ?_;obtain ⟨y,z,hm⟩:=aB hm
    refine pL (vs:=[dS u 0,zS a3 a.length c4]) (v:=i64 y) call272 rfl (fun _ b=>(d z b x c)) (tD ?_);obtain ⟨b5,J,hm⟩:=aB hm
    refine tD ?_;obtain ⟨b6,b7,V⟩:=bK.el (sz:=1) rfl e J
    obtain ⟨a0,rfl,a2⟩:=V
    refine tD ?_;obtain ⟨a4,a5,hm⟩:=aB hm
    exact pL (vs:=[dS a0 0,zS a3 a.length c4]) (v:=i64 a4) call272 rfl (fun _ b=>(d a5 b a2 c)) aL
theorem aDn (n:Nat):∀ {G:nX} {K:Hp} {L:List fJ} {w:World} {x_:(Tr aW)} {a1:Option Addr} {a:(List Int)} {a3:Option Addr} {c4:Nat} {R:Int} (hm:jW n x_ a=some R) (b:aF G K (L) w) (c:trd K x_ a1) (d:bK K a3 c4 a),
  Calls prog 272 ([dS a1 0,zS a3 a.length c4]:List Value).toArray w (dD fun v w'=>v=i64 R/\aF G K (L) w'):=by
 induction n with
 |zero=>
  intro G K L w x_ a1 a a3 c4 R hm b c d
  unfold jW at hm
  cases hm
 |succ n ih=>
  intro G K L w x_ a1 a a3 c4 R hm b c d
  exact aDm (rec_:=jW n) (fun hm b c d=>ih hm b c d) hm b c d
theorem aMW {x_:(Tr aW)} {values:(List Int)} {R:Int} (hm:aHx x_ values=some R) (hs:aF G K (L) w) (h2:trd K x_ a1) (h5:bK K a3 c4 values):
  Calls prog 272 ([dS a1 0,zS a3 values.length c4]:List Value).toArray w (dD fun v w'=>v=i64 R/\aF G K (L) w'):=aDn 100000 hm hs h2 h5
theorem aIm {e:(List aW)} {a:(List Int)} {R:Int} (hm:aBB e a=some R) (b:aF G K (L) w) (c:bK K a1 c2 e) (d:bK K a4 c5 a):
  Calls prog 227 ([zS a1 e.length c2,zS a4 a.length c5]:List Value).toArray w (dD fun v w'=>v=i64 R/\aF G K (L) w'):=by
 exact aL
theorem aEU {a:(List (List aW))} {b R:(List Int)} (hm:sV a b=some R) (l:aF G K (L) w) (o:bK K a1 c2 a) (p:bK K a4 c5 b):
  Calls prog 225 ([zS a1 a.length c2,zS a4 b.length c5]:List Value).toArray w (dD fun v w'=>∃ d e,v=zS d R.length e/\aF G K (aP 2 K d e R::L) w'):=by
 refine aBe func225 ?_;unfold sV at hm
 refine tD ?_;refine aQ [] (fun f w=>∃ c g h,aGy c=some R/\f 5=zS g c.length h/\aF G K (aP 2 K g h c::L) w) aL ?_
 have q:=aF.nil (α:=Int) l 2 K
 obtain ⟨r,m,ho⟩:=aB hm
 exact cA [1,8,9] m (fun i n f w=>∃ j k,f 5=zS j i.length k/\f 10=i64 n/\aF G K (aP 2 K j k i::L) w) aL aL
theorem aHD {c:(List Definition)} {b:(List bR)} {e:(List (aO × Bool))} {a:Nat} {s_:bR} {R:((List bR) × (List (aO × Bool)))} (hm:iX c b e s_=some R) (hs:aF G K (aP 176 Kf a5 c6 b::gV a e::box b1 252 [zS a2 c.length c3,zS a5 b.length c6,zM (some a)]::L) w) (y:G.lo=0) (J:Hp.le Kf K) (h4:bK K a2 c3 c) (m:bK Kf a8 c9 s_.Next.Values):
  Calls prog 226 ([zP (some ⟨b1,0,none⟩),zA #[str s_.B,i64 s_.Next.Definition,i64 s_.Next.Part,zS a8 s_.Next.Values.length c9]]:List Value).toArray w (dD fun v w'=>∃ n o,v=zT #[]/\aF G K (aP 176 Kf n o R.1::gV a R.2::box b1 252 [zS a2 c.length c3,zS n R.1.length o,zM (some a)]::L) w'):=by
 let g:=[str s_.B,i64 s_.Next.Definition,i64 s_.Next.Part,zS a8 s_.Next.Values.length c9]
 refine aBe func226 ?_;unfold iX at hm
 refine tD ?_;refine aGh fun V c7 d=>?_
 refine tD ?_;refine aRj ?_
 refine tD ?_;obtain ⟨c8,a0,hm⟩:=aB hm
 refine bU (fun _ d=>aKE rfl rfl a0) (tD ?_);obtain ⟨a1,a3,hm⟩:=aB hm
 refine pL (vs:=[zA #[i64 s_.Next.Definition,i64 s_.Next.Part,zS a8 s_.Next.Values.length c9]]) (v:=str a1) call54 rfl (fun _ d=>(aIk a3 d y (m.mono J))) ?_;obtain ⟨p,a4,hm⟩:=aB hm
 refine bU (fun _ d=>aKE rfl rfl a4) (tD ?_);refine pU (fun d0 q=>(tD ?_))
 refine aC (aSP (kv:=e) (k:=p) (z:=(false:Bool)) runUnderlying198 ko_9 zeroValue4 q (i:=2) rfl rfl rfl) (tD ?_)
 rcases aM hm with ⟨a6,hm⟩|⟨a6,hm⟩
 ·refine tD ?_;obtain ⟨j,a7,hm⟩:=aB hm
  refine aIE (i:=2) (k:=p) (v:=true) runUnderlying198 ko_9 q rfl rfl rfl rfl a7 (fun a9 (b0:aF G K (box V 176 g::aP 176 Kf a5 c6 b::gV a j::box b1 252 [zS a2 c.length c3,zS a5 b.length c6,zM (some a)]::L) a9)=>(tD ?_));obtain ⟨d1,d2,b2,b3,d3⟩:=aF.lendBp b0 .head
  obtain ⟨r,b4,d4,d5,b5⟩:=aF.lendBp b3 zt2
  refine st_w [(0,0),(1,0),(2,0),(3,0),(4,0),(5,1),(6,1),(7,1),(8,2),(9,2),(10,2)] fun d6 l=>?_;refine tD ?_
  refine nT rfl (aC (eQ (t:=0) (vs:=g) aLo l (b2.mono b4) rfl rfl rfl) (bN (aD ⟨⟨_,l⟩,?_⟩)))
  refine nT rfl (dU (Kt:=Kf) (xs:=([s_]:List bR)) (cs:=g) (vs:=[(0,zA #[str s_.B,i64 s_.Next.Definition,i64 s_.Next.Part,zS a8 s_.Next.Values.length c9])]) mM aNH rfl rfl l rfl (by kernel_rfl) rfl rfl rfl ⟨⟨a8,c9,rfl,m⟩,trivial⟩ (fun b6 b7 (u:aF G r (aP 176 Kf b6 1 ([s_]:List bR)::aP 176 Kf a5 c6 b::gV a j::L) b7)=>(bN (aD ⟨⟨_,u⟩,?_⟩))))
  refine nT rfl ?_;obtain ⟨b8,b9,hm⟩:=aB hm
  refine xP (i:=0) Kf mM underlying172 aNH rfl rfl u rfl (zR _) (zR _) b9 rfl rfl rfl rfl (fun _ _ _ h=>El.one h) (fun c0 c1 c2 (x:aF G r (aP 176 Kf c0 c1 b8::gV a j::L) c2)=>(bN (aD ⟨⟨_,x⟩,?_⟩)))
  have d7:=b5 _ _ x
  exact aL
 ·exact aL
theorem xG {rec_:(List Definition)->(List bR)->(List (aO × Bool))->Int->Int->(List Int)->Option ((List bR) × (List (aO × Bool)))} (ih:∀ {G:nX} {K:Hp} {L:List fJ} {w:World} {Kf:Hp} {b1:Nat} {g:(List Definition)} {a2:Option Addr} {c3:Nat} {n:(List bR)} {a5:Option Addr} {c6:Nat} {d:(List (aO × Bool))} {c:Nat} {k:Int} {part:Int} {e:(List Int)} {a8:Option Addr} {c9:Nat} {R:((List bR) × (List (aO × Bool)))} (hm:rec_ g n d k part e=some R) (hs:aF G K (aP 176 Kf a5 c6 n::gV c d::box b1 252 [zS a2 g.length c3,zS a5 n.length c6,zM (some c)]::L) w) (hG:G.lo=0) (b6:Hp.le Kf K) (h4:bK K a2 c3 g) (a3:bK K a8 c9 e),
  Calls prog 176 ([zP (some ⟨b1,0,none⟩),i64 k,i64 part,zS a8 e.length c9]:List Value).toArray w (dD fun v w'=>∃ K' c4 c5,v=zT #[]/\Hp.le K K'/\aF G K' (aP 176 K' c4 c5 R.1::gV c R.2::box b1 252 [zS a2 g.length c3,zS c4 R.1.length c5,zM (some c)]::L) w'))
  {G:nX} {K:Hp} {L:List fJ} {w:World} {Kf:Hp} {b1:Nat} {g:(List Definition)} {a2:Option Addr} {c3:Nat} {n:(List bR)} {a5:Option Addr} {c6:Nat} {d:(List (aO × Bool))} {c:Nat} {k:Int} {part:Int} {e:(List Int)} {a8:Option Addr} {c9:Nat} {R:((List bR) × (List (aO × Bool)))} (hm:cL rec_ g n d k part e=some R) (hs:aF G K (aP 176 Kf a5 c6 n::gV c d::box b1 252 [zS a2 g.length c3,zS a5 n.length c6,zM (some c)]::L) w) (hG:G.lo=0) (b6:Hp.le Kf K) (h4:bK K a2 c3 g) (a3:bK K a8 c9 e):
  Calls prog 176 ([zP (some ⟨b1,0,none⟩),i64 k,i64 part,zS a8 e.length c9]:List Value).toArray w (dD fun v w'=>∃ K' c4 c5,v=zT #[]/\Hp.le K K'/\aF G K' (aP 176 K' c4 c5 R.1::gV c R.2::box b1 252 [zS a2 g.length c3,zS c4 R.1.length c5,zM (some c)]::L) w'):=by
 let o:=[zS a2 g.length c3,zS a5 n.length c6,zM (some c)]
 let g5:=[zP (some ⟨b1,0,none⟩),i64 k,i64 (wr (part+1)),zS a8 e.length c9]
 let b9:=aP 176 K a5 c6 n
 let c2:=aP 176 Kf a5 c6 n
 refine aN func176 rfl (by kernel_rfl) (by show (4:Nat)<=118;decide) ?_;unfold cL at hm
 refine aK (aI (v:=zP (some ⟨b1,0,none⟩)) (aC (jF rfl) (aC (bG (t':=0) aUv rfl rfl) (aC (cX aPQ hs (i:=2) rfl rfl rfl) (aI (v:=i64 k) ?_)))));obtain ⟨b,g6,hm⟩:=aB hm
 refine aC (dQ yQ rfl h4 rfl rfl rfl g6) ?_;obtain ⟨r3,j1,j2⟩:=bK.el (sz:=3) rfl h4 g6
 obtain ⟨j,l,rfl,c7⟩:=j2
 refine aC (eQ (t:=0) (vs:=[str b.Name,i64 b.Parameters,zS j b.Body.length l]) aLp hs j1 rfl rfl rfl) (cN (vs:=[str ([]:aO),i64 0,zS none 0 0]) zeroValue101 hs rfl (fun y r4 j3=>(dT (i:=0) (ns:=[str b.Name,i64 b.Parameters,zS j b.Body.length l]) (us:=[str b.Name,i64 b.Parameters,zS j b.Body.length l]) sizeOf101 j3 rfl rfl rfl rfl rfl (fW rfl) rfl rfl (fun j4 (e3:aF G K (box y 101 [str b.Name,i64 b.Parameters,zS j b.Body.length l]::c2::gV c d::box b1 252 o::L) j4)=>(aH (aK (aC (bG (t':=2) wC rfl rfl) (aC (cX aKH e3 (i:=0) rfl rfl rfl) (aI (v:=i64 part) ?_)))))))))
 obtain ⟨a,g7,hm⟩:=aB hm
 refine aC (dQ yP rfl c7 rfl rfl rfl g7) ?_;obtain ⟨r5,j5,j6⟩:=bK.el (sz:=4) rfl c7 g7
 obtain ⟨p,q,rfl,e4⟩:=j6
 refine aC (eQ (t:=0) (vs:=[i64 a.Kind,i64 a.Number,str a.Name,zS p a.Arguments.length q]) aHf e3 j5 rfl rfl rfl) (cN (vs:=[i64 0,i64 0,str ([]:aO),zS none 0 0]) zeroValue159 e3 rfl (fun z r6 j7=>(dT (i:=0) (ns:=[i64 a.Kind,i64 a.Number,str a.Name,zS p a.Arguments.length q]) (us:=[i64 a.Kind,i64 a.Number,str a.Name,zS p a.Arguments.length q]) sizeOf159 j7 rfl rfl rfl rfl rfl (fW rfl) rfl rfl (fun c8 (V:aF G K (box z 159 [i64 a.Kind,i64 a.Number,str a.Name,zS p a.Arguments.length q]::box y 101 [str b.Name,i64 b.Parameters,zS j b.Body.length l]::c2::gV c d::box b1 252 o::L) c8)=>(aH (aK (aC (bG (t':=0) sB rfl rfl) (aC (cX kQ V (i:=0) rfl rfl rfl) (aH (aQ [] (fun f w=>∃ e5 e6 g8 g9 h0,Hp.le K e5/\iG e6 g8=some R/\aF G e5 (aP 176 e5 g9 h0 e6::gV c g8::box b1 252 [zS a2 g.length c3,zS g9 e6.length h0,zM (some c)]::L) w) aL (aK (aC (jA rfl rfl) (aG (v:=zB (a.Kind == 1)) (aH ?_))))))))))))))
 rcases aM hm with ⟨e7,hm⟩|⟨e7,hm⟩
 ·refine aU e7 rfl (aJ ?_);obtain ⟨j8,e8,h1,h2,j9⟩:=aF.lendBp V .head
  refine iC (C:=fun w'=>∃ L',aF G j8 L' w') [(0,0),(1,0),(2,0),(3,0),(4,0),(5,1),(6,1),(7,0),(8,0),(9,0),(10,0),(11,0)] Tryz_mixed (by kernel_rfl) (fun _ hg=>⟨_,aF.mono h2 hg⟩) (fun r8 k0=>?_)
  have d0:=aF.mono h2 k0
  refine bW rfl (fun _ _=>bG (t':=2) aMf rfl rfl) (bW rfl (fun _ ⟨_,d0⟩=>cD (t:=2) pE d0 h1 rfl rfl) (bW rfl (fun _ _=>bG (t':=3) wB rfl rfl) (bW rfl (fun _ ⟨_,d0⟩=>cD (t:=3) aFV d0 h1 rfl rfl) (bW rfl (fun _ _=>bM (v:=zS a8 e.length c9) rfl) (nT rfl ?_)))));obtain ⟨e9,k1,hm⟩:=aB hm
  refine aT (vs:=[zS p a.Arguments.length q,zS a8 e.length c9]) call225 rfl (aEU k1 d0 (e4.mono e8) (a3.mono e8)) ?_
  rintro _ r9 ⟨f0,f1,rfl,h3⟩
  refine bN (aD ⟨⟨_,h3⟩,?_⟩)
  refine nT rfl ?_;obtain ⟨s0,s1,k2,k3,k4⟩:=aF.lendSp h3 e8 .head
  obtain ⟨a4,k5,hm⟩:=aB hm
  refine aT (vs:=[str a.Name,zS f0 e9.length f1]) call181 rfl (aAV k5 k3 hG k2) ?_
  rintro _ s2 ⟨rfl,k6⟩
  have h5:=k4 _ _ k6
  refine bN (aD ⟨⟨_,h5⟩,?_⟩)
  refine bW rfl (fun _ _=>bM (v:=zT #[str a4.1,zB a4.2]) rfl) (bW rfl (fun _ _=>bP rfl rfl) (bW rfl (fun _ _=>bP rfl rfl) (bW rfl (fun _ _=>jH (v:=str a4.1) rfl) (bW rfl (fun _ _=>jH (v:=zB a4.2) rfl) (aCP ?_)))))
  have k7:=j9 _ _ h5
  refine aD (aK (aI (v:=i64 k) (aI (v:=i64 part) (aC (cP rfl rfl) (aI (v:=zS a8 e.length c9) ?_)))));obtain ⟨a6,k8,hm⟩:=aB hm
  refine aT (vs:=[zS a8 e.length c9]) call123 rfl (gK k8 k7 a3) ?_
  rintro _ s3 ⟨a7,a9,rfl,k9⟩
  refine aC (jE (vs:=[(0,i64 k),(1,i64 (wr (part+1))),(2,zS a7 a6.length a9)]) (cs:=[i64 k,i64 (wr (part+1)),zS a7 a6.length a9]) aPS rfl (by kernel_rfl)) (cN (vs:=[i64 0,i64 0,zS none 0 0]) zeroValue97 k9 rfl (fun d1 s4 l0=>(dT (i:=0) (ns:=[i64 k,i64 (wr (part+1)),zS a7 a6.length a9]) (us:=[i64 k,i64 (wr (part+1)),zS a7 a6.length a9]) sizeOf97 l0 rfl rfl rfl rfl rfl (fW rfl) rfl rfl (fun l1 (f2:aF G K (box d1 97 [i64 k,i64 (wr (part+1)),zS a7 a6.length a9]::aP 2 K a7 a9 a6::box z 159 [i64 a.Kind,i64 a.Number,str a.Name,zS p a.Arguments.length q]::aP 2 K f0 f1 e9::box y 101 [str b.Name,i64 b.Parameters,zS j b.Body.length l]::c2::gV c d::box b1 252 o::L) l1)=>(aH (rB [0,10,12] (fun f w=>∃ b0 b2 a0 b3 b4,oT g n d a4 b0 b2 a0=some R/\aF G K (aP 2 K b3 b4 a0::box d1 97 [i64 b0,i64 b2,zS b3 a0.length b4]::c2::gV c d::box b1 252 o::L) w) ?_ ?_))))))
  ·rintro f h6 ⟨b0,b2,a0,b3,b4,hm,h7⟩
   unfold oT at hm
   refine aX (aI (v:=zP (some ⟨b1,0,none⟩)) (aI (v:=str a4.1) (aC (jB (us:=[i64 b0,i64 b2,zS b3 a0.length b4]) aBh h7 (i:=1) rfl rfl rfl rfl) (aC (jE (vs:=[(0,str a4.1),(1,zA #[i64 b0,i64 b2,zS b3 a0.length b4])]) (cs:=[str a4.1,i64 b0,i64 b2,zS b3 a0.length b4]) bs_176 rfl (by kernel_rfl)) ?_))));obtain ⟨f3,l2,s5,f4⟩:=aF.giveSp h7 (zR _) .head
   replace f4:aF G f3 (box d1 97 [i64 b0,i64 b2,zS b3 a0.length b4]::c2::gV c d::box b1 252 o::L) h6:=f4
   have s6:aF G f3 (box d1 97 [i64 b0,i64 b2,zS b3 a0.length b4]::aP 176 f3 a5 c6 n::gV c d::box b1 252 o::L) h6:=aF.weak (i:=1) f4 rfl (fun _ h=>aP.mono (zL b6 l2) h)
   exact aL
  refine aK (aC (bG (t':=2) wC rfl rfl) (aC (cX aKH f2 (i:=4) rfl rfl rfl) (aI (v:=i64 part) (aC (cP rfl rfl) ?_))));obtain ⟨m,h8,hm⟩:=aB hm
  refine aC (dQ yP rfl c7 rfl rfl rfl h8) ?_;obtain ⟨s7,l3,l4⟩:=bK.el (sz:=4) rfl c7 h8
  obtain ⟨d6,d7,rfl,s8⟩:=l4
  refine aC (eQ (t:=0) (vs:=[i64 m.Kind,i64 m.Number,str m.Name,zS d6 m.Arguments.length d7]) aHf f2 l3 rfl rfl rfl) (cN (vs:=[i64 0,i64 0,str ([]:aO),zS none 0 0]) zeroValue159 f2 rfl (fun l5 s9 l6=>(dT (i:=0) (ns:=[i64 m.Kind,i64 m.Number,str m.Name,zS d6 m.Arguments.length d7]) (us:=[i64 m.Kind,i64 m.Number,str m.Name,zS d6 m.Arguments.length d7]) sizeOf159 l6 rfl rfl rfl rfl rfl (fW rfl) rfl rfl (fun l7 (h9:aF G K (box l5 159 [i64 m.Kind,i64 m.Number,str m.Name,zS d6 m.Arguments.length d7]::box d1 97 [i64 k,i64 (wr (part+1)),zS a7 a6.length a9]::aP 2 K a7 a9 a6::box z 159 [i64 a.Kind,i64 a.Number,str a.Name,zS p a.Arguments.length q]::aP 2 K f0 f1 e9::box y 101 [str b.Name,i64 b.Parameters,zS j b.Body.length l]::c2::gV c d::box b1 252 o::L) l7)=>(aH (aK (aC (bG (t':=0) sB rfl rfl) (aC (cX kQ h9 (i:=0) rfl rfl rfl) (aC (jA rfl rfl) (aH ?_))))))))))
  rcases aM hm with ⟨i0,hm⟩|⟨i0,hm⟩
  ·refine aU i0 rfl ?_;obtain ⟨l8,t0,t1,i1,t2⟩:=aF.lendBp h9 .head
   refine iC (C:=fun w'=>∃ L',aF G l8 L' w') [(0,0),(1,0),(2,0),(3,0),(4,0),(5,1),(6,0),(7,2)] Tryz_mixed (by kernel_rfl) (fun _ hg=>⟨_,aF.mono i1 hg⟩) (fun t3 l9=>?_)
   have t4:=aF.mono i1 l9
   exact aL
  ·exact aL
 ·refine aR e7 rfl (aK (aC (jA rfl rfl) (aG (v:=zB (a.Kind == 2)) (aH ?_))))
  rcases aM hm with ⟨f5,hm⟩|⟨f5,hm⟩
  ·refine aU f5 rfl (aK (aI (v:=zP (some ⟨b1,0,none⟩)) (aI (v:=i64 k) (aI (v:=i64 part) (aC (cP rfl rfl) (aI (v:=zS a8 e.length c9) ?_))))))
   have m0:aF G K (box z 159 [i64 a.Kind,i64 a.Number,str a.Name,zS p a.Arguments.length q]::box y 101 [str b.Name,i64 b.Parameters,zS j b.Body.length l]::b9::gV c d::box b1 252 o::L) c8:=aF.weak (i:=2) V rfl (fun _ h=>aP.mono b6 h)
   have m1:aF G K (b9::gV c d::box b1 252 o::box z 159 [i64 a.Kind,i64 a.Number,str a.Name,zS p a.Arguments.length q]::box y 101 [str b.Name,i64 b.Parameters,zS j b.Body.length l]::L) c8:=(aF.arr 5 [2,3,4,0,1] m0 rfl)
   obtain ⟨t5,m2,hm⟩:=aB hm
   refine aT (vs:=g5) call176 rfl (ih (Kf:=K) m2 m1 hG (zR _) h4 a3) ?_
   rintro _ t6 ⟨m3,t7,t8,rfl,d8,i2⟩
   refine aH (aX (aI (v:=zP (some ⟨b1,0,none⟩)) (aI (v:=i64 k) (aC (jB (us:=[str b.Name,i64 b.Parameters,zS j b.Body.length l]) aLp i2 (i:=4) rfl rfl rfl rfl) (aI (v:=i64 part) (aC (cP rfl rfl) ?_))))));obtain ⟨m4,m5,hm⟩:=aB hm
   refine aT (vs:=[zA #[str b.Name,i64 b.Parameters,zS j b.Body.length l],i64 (wr (part+1))]) call214 rfl (aBj m5 i2 (c7.mono d8)) ?_
   rintro _ t9 ⟨rfl,m6⟩
   refine aI (v:=zS a8 e.length c9) ?_;obtain ⟨i3,m7,hm⟩:=aB hm
   refine aT (vs:=[zP (some ⟨b1,0,none⟩),i64 k,i64 m4,zS a8 e.length c9]) call176 rfl (ih (Kf:=m3) m7 m6 hG (zR _) (h4.mono d8) (a3.mono d8)) ?_
   rintro _ u0 ⟨m8,m9,n0,rfl,n1,n2⟩
   exact bN (bX (aD ⟨bZ,m8,i3.1,i3.2,m9,n0,(zL d8 n1),hm,(aF.arr 5 [0,1,2] n2 rfl)⟩))
  ·refine aR f5 rfl (aK (aC (jA rfl rfl) (aG (v:=zB (a.Kind == 3)) (aH ?_))))
   rcases aM hm with ⟨f6,hm⟩|⟨f6,hm⟩
   ·refine aU f6 rfl (aK (aC (bG (t':=3) wB rfl rfl) (aC (cX aFV V (i:=0) rfl rfl rfl) ?_)));obtain ⟨n3,i4,hm⟩:=aB hm
    refine aC (dQ aAd rfl e4 rfl rfl rfl i4) ?_;obtain ⟨u1,n4,n5⟩:=bK.el (sz:=1) rfl e4 i4
    obtain ⟨n6,n7,rfl,n8⟩:=n5
    refine aC (cD (t:=0) aPO V n4 rfl rfl) (aI (v:=zS a8 e.length c9) ?_);obtain ⟨u2,n9,hm⟩:=aB hm
    refine aT (vs:=[zS n6 n3.length n7,zS a8 e.length c9]) call227 rfl (aIm n9 V n8 a3) ?_
    rintro _ f7 ⟨rfl,i5⟩
    refine aC (aBf rfl rfl) (aH ?_)
    rcases aM hm with ⟨f8,hm⟩|⟨f8,hm⟩
    ·refine aU f8 rfl (aX (aI (v:=zP (some ⟨b1,0,none⟩)) (aI (v:=i64 k) (aI (v:=i64 part) (aC (cP rfl rfl) (aI (v:=zS a8 e.length c9) ?_))))))
     have o0:aF G K (box z 159 [i64 a.Kind,i64 a.Number,str a.Name,zS p a.Arguments.length q]::box y 101 [str b.Name,i64 b.Parameters,zS j b.Body.length l]::b9::gV c d::box b1 252 o::L) f7:=aF.weak (i:=2) i5 rfl (fun _ h=>aP.mono b6 h)
     have o1:aF G K (b9::gV c d::box b1 252 o::box z 159 [i64 a.Kind,i64 a.Number,str a.Name,zS p a.Arguments.length q]::box y 101 [str b.Name,i64 b.Parameters,zS j b.Body.length l]::L) f7:=(aF.arr 5 [2,3,4,0,1] o0 rfl)
     obtain ⟨i6,o2,hm⟩:=aB hm
     refine aT (vs:=g5) call176 rfl (ih (Kf:=K) o2 o1 hG (zR _) h4 a3) ?_
     rintro _ u3 ⟨o3,o4,o5,rfl,o6,o7⟩
     exact bN (bX (aD ⟨bZ,o3,i6.1,i6.2,o4,o5,o6,hm,(aF.arr 5 [0,1,2] o7 rfl)⟩))
    ·refine aR f8 rfl ?_
     have o8:aF G K (box z 159 [i64 a.Kind,i64 a.Number,str a.Name,zS p a.Arguments.length q]::box y 101 [str b.Name,i64 b.Parameters,zS j b.Body.length l]::b9::gV c d::box b1 252 o::L) f7:=aF.weak (i:=2) i5 rfl (fun _ h=>aP.mono b6 h)
     exact bA (bX (aD ⟨bZ,K,n,d,a5,c6,(zR _),hm,(aF.arr 2 [] o8 rfl)⟩))
   ·refine aR f6 rfl (aK (aC (jA rfl rfl) (aG (v:=zB (a.Kind == 4)) (aH ?_))))
    rcases aM hm with ⟨f9,hm⟩|⟨f9,hm⟩
    ·refine aU f9 rfl (aK (aC (bG (t':=1) aII rfl rfl) (aC (cX kQ V (i:=0) rfl rfl rfl) (aC (cP rfl rfl) (aI (v:=i64 0) (aH (aQ [] (fun f w=>∃ d2 d3 d9 e0 e1,Hp.le K d2/\oU d3 d9=some R/\aF G d2 (aP 176 d2 e0 e1 d3::gV c d9::box b1 252 [zS a2 g.length c3,zS e0 d3.length e1,zM (some c)]::L) w) ?_ ?_)))))))
     ·rintro f u4 ⟨d2,d3,d9,e0,e1,o9,hm,p0⟩
      unfold oU at hm
      exact bX (aD ⟨bZ,d2,d3,d9,e0,e1,o9,hm,p0⟩)
     have p1:aF G K (box z 159 [i64 a.Kind,i64 a.Number,str a.Name,zS p a.Arguments.length q]::box y 101 [str b.Name,i64 b.Parameters,zS j b.Body.length l]::b9::gV c d::box b1 252 o::L) c8:=aF.weak (i:=2) V rfl (fun _ h=>aP.mono b6 h)
     obtain ⟨u5,p2,ho⟩:=aB hm
     refine iE [0,1,2,3,103] p2 (fun r b5 a1 f w=>∃ J u x,Hp.le K J/\f 104=i64 a1/\aF G J (aP 176 J u x r::gV c b5::box b1 252 [zS a2 g.length c3,zS u r.length x,zM (some c)]::L) w) ?_ ?_
     ·exact ⟨K,a5,c6,(zR _),rfl,(aF.arr 2 [] p1 rfl)⟩
     ·rintro r b5 a1 u6 f u7 hm hr ⟨J,u,x,c0,g0,i7⟩
      unfold fB at hm
      refine aK (aC (cK g0 rfl) (aH (aJ ?_)))
      rcases aM hm with ⟨g1,hm⟩|⟨g1,hm⟩
      ·refine aU g1 rfl (bA (aD (aJ (bT (aK (aZ g0 (aG (v:=i64 a1) (aH (aX (aI (v:=zP (some ⟨b1,0,none⟩)) (aI (v:=i64 k) (aI (v:=i64 part) (aC (cP rfl rfl) (aI (v:=zS a8 e.length c9) ?_))))))))))))));obtain ⟨p3,p4,hm⟩:=aB hm
       refine aT (vs:=[zS a8 e.length c9]) call123 rfl (gK p4 i7 (a3.mono c0)) ?_
       rintro _ u8 ⟨p5,p6,rfl,p7⟩
       refine aI (v:=i64 a1) (dU (Kt:=K) (xs:=([a1]:List Int)) (cs:=[i64 a1]) (vs:=[(0,i64 a1)]) fZ aIG rfl rfl p7 rfl (by kernel_rfl) rfl rfl rfl ⟨rfl,trivial⟩ (fun p8 p9 (q0:aF G J (aP 2 K p8 1 ([a1]:List Int)::aP 2 K p5 p6 p3::aP 176 J u x r::gV c b5::box b1 252 [zS a2 g.length c3,zS u r.length x,zM (some c)]::L) p9)=>?_));obtain ⟨i8,q1,hm⟩:=aB hm
       refine xO (i:=0) fZ underlying29 aIG rfl rfl q0 rfl c0 c0 q1 rfl rfl rfl rfl (fun _ h=>h) (fun i9 j0 g2 (q2:aF G J (aP 2 K i9 j0 i8::aP 176 J u x r::gV c b5::box b1 252 [zS a2 g.length c3,zS u r.length x,zM (some c)]::L) g2)=>?_);obtain ⟨e2,g3,q3,g4⟩:=aF.giveSp q2 c0 .head
       replace g4:aF G e2 (aP 176 J u x r::gV c b5::box b1 252 [zS a2 g.length c3,zS u r.length x,zM (some c)]::L) g2:=g4
       have q4:aF G e2 (aP 176 e2 u x r::gV c b5::box b1 252 [zS a2 g.length c3,zS u r.length x,zM (some c)]::L) g2:=aF.weak (i:=0) g4 rfl (fun _ h=>aP.mono g3 h)
       obtain ⟨u9,q5,hm⟩:=aB hm
       refine aT (vs:=[zP (some ⟨b1,0,none⟩),i64 k,i64 (wr (part+1)),zS i9 i8.length j0]) call176 rfl (ih (Kf:=e2) q5 q4 hG (zR _) (h4.mono (zL c0 g3)) q3) ?_
       rintro _ v0 ⟨q6,q7,q8,rfl,q9,r0⟩
       exact bN (bX (aD (aX (aC (cP g0 rfl) (aI (v:=i64 (wr (a1+1))) (aH ⟨_,(zI hm).symm,bZ,q6,q7,q8,(zL (zL c0 g3) q9),rfl,r0⟩))))))
      ·refine aR g1 rfl (tP (gF (gF ?_)))
       have r1:=hr _ (zI hm).symm
       subst r1
       have hm:(oU r b5)=some R:=ho
       clear hr ho
       exact nF (aD ⟨bZ,J,r,b5,u,x,c0,hm,i7⟩)
    ·refine aR f9 rfl ?_
     have r2:aF G K (box z 159 [i64 a.Kind,i64 a.Number,str a.Name,zS p a.Arguments.length q]::box y 101 [str b.Name,i64 b.Parameters,zS j b.Body.length l]::b9::gV c d::box b1 252 o::L) c8:=aF.weak (i:=2) V rfl (fun _ h=>aP.mono b6 h)
     exact bA (bX (aD ⟨bZ,K,n,d,a5,c6,(zR _),hm,(aF.arr 2 [] r2 rfl)⟩))
theorem xH (n:Nat):∀ {G:nX} {K:Hp} {L:List fJ} {w:World} {Kf:Hp} {b1:Nat} {a:(List Definition)} {a2:Option Addr} {c3:Nat} {c:(List bR)} {a5:Option Addr} {c6:Nat} {l:(List (aO × Bool))} {b:Nat} {k:Int} {part:Int} {d:(List Int)} {a8:Option Addr} {c9:Nat} {R:((List bR) × (List (aO × Bool)))} (hm:bJ n a c l k part d=some R) (e:aF G K (aP 176 Kf a5 c6 c::gV b l::box b1 252 [zS a2 a.length c3,zS a5 c.length c6,zM (some b)]::L) w) (g:G.lo=0) (h:Hp.le Kf K) (i:bK K a2 c3 a) (j:bK K a8 c9 d),
  Calls prog 176 ([zP (some ⟨b1,0,none⟩),i64 k,i64 part,zS a8 d.length c9]:List Value).toArray w (dD fun v w'=>∃ m o p,v=zT #[]/\Hp.le K m/\aF G m (aP 176 m o p R.1::gV b R.2::box b1 252 [zS a2 a.length c3,zS o R.1.length p,zM (some b)]::L) w'):=by
 induction n with
 |zero=>
  intro G K L w Kf b1 a a2 c3 c a5 c6 l b k part d a8 c9 R hm e g h i j
  unfold bJ at hm
  cases hm
 |succ n ih=>
  intro G K L w Kf b1 a a2 c3 c a5 c6 l b k part d a8 c9 R hm e g h i j
  exact xG (rec_:=bJ n) (fun hm e g h i j=>ih hm e g h i j) hm e g h i j
theorem aHE {x0_:(List Definition)} {x1_:(List bR)} {x2_M:(List (aO × Bool))} {r7:Nat} {k part:Int} {values:(List Int)} {R:((List bR) × (List (aO × Bool)))} (hm:aAO x0_ x1_ x2_M k part values=some R) (hs:aF G K (aP 176 Kf a5 c6 x1_::gV r7 x2_M::box b1 252 [zS a2 x0_.length c3,zS a5 x1_.length c6,zM (some r7)]::L) w) (hG:G.lo=0) (hKf:Hp.le Kf K) (h4:bK K a2 c3 x0_) (h10:bK K a8 c9 values):
  Calls prog 176 ([zP (some ⟨b1,0,none⟩),i64 k,i64 part,zS a8 values.length c9]:List Value).toArray w (dD fun v w'=>∃ K' ra1 rc1,v=zT #[]/\Hp.le K K'/\aF G K' (aP 176 K' ra1 rc1 R.1::gV r7 R.2::box b1 252 [zS a2 x0_.length c3,zS ra1 R.1.length rc1,zM (some r7)]::L) w'):=xH 100000 hm hs hG hKf h4 h10
theorem aMX {a:(List Definition)} {p:GPoint} {R:((List bR) × Bool)} (hm:aHy a p=some R) (k:aF G K (L) w) (l:G.lo=0) (m:bK K a1 c2 a) (n:bK K a4 c5 p.Values):
  Calls prog 124 ([zS a1 a.length c2,zA #[i64 p.Definition,i64 p.Part,zS a4 p.Values.length c5]]:List Value).toArray w (dD fun v w'=>∃ b d e,v=zT #[zS d R.1.length e,zB R.2]/\Hp.le K b/\aF G b (aP 176 b d e R.1::L) w'):=by
 refine aBe func124 ?_;unfold aHy at hm
 refine tD ?_;refine aGh fun g o h=>?_
 refine tD ?_;refine aID aO Bool h ?_
 intro c i (q:aF G K (gV c ([]:(List (aO × Bool)))::box g 97 [i64 p.Definition,i64 p.Part,zS a4 p.Values.length c5]::L) i)
 refine aC (jE (vs:=[(0,zS a1 a.length c2),(2,zM (some c))]) (cs:=[zS a1 a.length c2,zS none 0 0,zM (some c)]) bs_252 rfl (by kernel_rfl)) (aGh fun r t j=>?_);refine tD ?_
 have u:=aF.nil (α:=bR) j 176 K
 exact aL
theorem tL {p R:GPoint} (hm:rS p=some R) (c:aF G K (L) w) (d:bK K a1 c2 p.Values):
  Calls prog 89 ([zA #[i64 p.Definition,i64 p.Part,zS a1 p.Values.length c2]]:List Value).toArray w (dD fun v w'=>∃ a b,v=zA #[i64 R.Definition,i64 R.Part,zS a R.Values.length b]/\aF G K (aP 2 K a b R.Values::L) w'):=by
 exact aL
theorem aAZ {l R:(List GPoint)} (hm:oV l=some R) (hs:aF G K (L) w) (h3:bK K a1 c2 l):
  Calls prog 56 ([zS a1 l.length c2]:List Value).toArray w (dD fun v w'=>∃ r t m,v=zS r R.length t/\List.length m=List.length R/\aF G K (aP 97 K r t (aV m R)::rows [2] m R::L) w'):=by
 refine aBe func56 ?_;unfold oV at hm
 refine tD ?_;refine aQ [] (fun f w=>∃ h u y n,aCS h=some R/\f 3=zS u h.length y/\List.length n=List.length h/\aF G K (aP 97 K u y (aV n h)::rows [2] n h::L) w) aL ?_
 have a7:aF G K (aP 97 K none 0 (aV ([]:List (Dp.Hd GPoint)) ([]:List GPoint))::rows [2] ([]:List (Dp.Hd GPoint)) ([]:List GPoint)::L) w:=aF.nil (α:=Cells _) (aF.rowsNil (α:=GPoint) (tys:=[2]) hs) 97 K
 obtain ⟨c1,a8,ho⟩:=aB hm
 refine cA [6,7] a8 (fun e z f w=>∃ j k a,f 3=zS j e.length k/\f 8=i64 z/\List.length a=List.length e/\aF G K (aP 97 K j k (aV a e)::rows [2] a e::L) w) ?_ ?_
 ·exact ⟨none,0,[],rfl,rfl,rfl,a7⟩
 ·rintro e z c3 f c4 hm hr ⟨j,k,a,c5,c7,J,c8⟩
  unfold kJ at hm
  refine tD ?_
  rcases aM hm with ⟨c48,hm⟩|⟨c48,hm⟩
  ·refine tD ?_;refine bT (tD ?_)
   obtain ⟨g,a9,hm⟩:=aB hm
   refine tD ?_;obtain ⟨c9,d0,b0⟩:=bK.el (sz:=3) rfl h3 a9
   obtain ⟨o,p,rfl,b1⟩:=b0
   refine tD ?_;refine aGf fun q d1 d2=>?_
   refine aFe fun d3 b2=>?_;refine tD ?_
   obtain ⟨b,b3,hm⟩:=aB hm
   refine aCO call89 (tL b3 b2 b1) ?_
   rintro _ b4 ⟨c,d,rfl,b5⟩
   have b6:aF G K (rows [2] ([(c,d)]:List (Dp.Hd GPoint)) ([b]:List GPoint)::box q 97 [i64 g.Definition,i64 g.Part,zS o g.Values.length p]::aP 97 K j k (aV a e)::rows [2] a e::L) b4:=aF.rowsOneS (tys:=[2]) (hd:=((c,d):Dp.Hd GPoint)) (x:=(b:GPoint)) b5
   refine dU (Kt:=K) (xs:=aV ([(c,d)]:List (Dp.Hd GPoint)) ([b]:List GPoint)) (cs:=[i64 b.Definition,i64 b.Part,zS c b.Values.length d]) (vs:=[(0,zA #[i64 b.Definition,i64 b.Part,zS c b.Values.length d])]) gR aDb rfl rfl b6 rfl (by kernel_rfl) rfl rfl rfl ⟨rfl,trivial⟩ ?_
   intro b7 b8 (b9:aF G K (aP 97 K b7 1 (aV ([(c,d)]:List (Dp.Hd GPoint)) ([b]:List GPoint))::rows [2] ([(c,d)]:List (Dp.Hd GPoint)) ([b]:List GPoint)::box q 97 [i64 g.Definition,i64 g.Part,zS o g.Values.length p]::aP 97 K j k (aV a e)::rows [2] a e::L) b8)
   obtain ⟨V,a0,hm⟩:=aB hm
   refine aSO (i:=1) (tys:=[2]) (hds:=a) (hds2:=([(c,d)]:List (Dp.Hd GPoint))) gR underlying56 aDb rfl rfl b9 J rfl rfl rfl a0 rfl rfl rfl rfl ?_
   intro a2 a3 c0 (d4:aF G K (aP 97 K a2 a3 (aV (a++([(c,d)]:List (Dp.Hd GPoint))) V)::rows [2] (a++([(c,d)]:List (Dp.Hd GPoint))) V::box q 97 [i64 g.Definition,i64 g.Part,zS o g.Values.length p]::L) c0)
   refine tD ?_;exact ⟨_,(zI hm).symm,bZ,a2,a3,(a++([(c,d)]:List (Dp.Hd GPoint))),rfl,rfl,(aPr J rfl a0),aDq⟩
  ·exact aL
theorem xI {m:bB} {p:aO} {b:Nat} {a:aO} {c:Nat} {R:Bool} (hm:pO m p a=some R) (g:aF G K (L) w) (h:eU K a1 b [str p]) (i:eU K a4 c [str a]):
  Calls prog 232 ([zA #[str m.Left,str m.Right,str m.Result],dS a1 b,dS a4 c]:List Value).toArray w (dD fun v w'=>v=zB R/\aF G K (L) w'):=by
 refine aBe func232 ?_;unfold pO at hm
 refine tD ?_;refine aGh fun j k l=>?_
 iterate 4 refine aBL ?_
 refine bQ [] (fun f w=>∃ d,mR d=some R/\f 4=zB d/\aF G K (L) w) aL (tD ?_);refine aC (R_minS rfl rfl) (tD ?_)
 rcases aM hm with ⟨e,hm⟩|⟨e,hm⟩
 ·refine tD ?_;refine aC (R_maxS rfl rfl) (tD ?_)
  exact ⟨bZ,m.Right == (mxS p a),hm,rfl,aDq⟩
 ·exact aL
theorem gM {s_:(List bB)} {d:aO} {b:Nat} {e:aO} {c:Nat} {R:Int} (hm:dN s_ d e=some R) (q:aF G K (L) w) (h:bK K a1 c2 s_) (i:eU K a4 b [str d]) (j:eU K a7 c [str e]):
  Calls prog 221 ([zS a1 s_.length c2,Value.func (.func 232) #[] #[dS a4 b,dS a7 c]]:List Value).toArray w (dD fun v w'=>v=i64 R/\aF G K (L) w'):=by
 refine aBe func221 ?_;unfold dN at hm
 refine tD ?_;refine aQ [] (fun f w=>gT=some R/\aF G K (L) w) aL ?_
 obtain ⟨r,k,ho⟩:=aB hm
 refine cE [0,1,7] k (fun g f w=>f 8=i64 g/\aF G K (L) w) aL ?_
 ·rintro g t f u hm hr ⟨x,l⟩
  unfold cM at hm
  refine tD ?_
  rcases aM hm with ⟨m,hm⟩|⟨m,hm⟩
  ·refine tD ?_;refine bT (tD ?_)
   obtain ⟨a,n,hm⟩:=aB hm
   refine tD ?_;obtain ⟨y,z,o⟩:=bK.el (sz:=3) rfl h n
   cases o
   refine tD ?_;obtain ⟨J,p,hm⟩:=aB hm
   exact pT (vs:=[zA #[str a.Left,str a.Right,str a.Result]]) (caps:=[dS a4 b,dS a7 c]) (us:=[zA #[str a.Left,str a.Right,str a.Result],dS a4 b,dS a7 c]) rfl call232 rfl rfl (xI p l i j) aL
  ·exact aL
theorem aBm {s_:bE} {a b:aO} {R:(aO × Bool)} (hm:nE s_ a b=some R) (o:aF G K (L) w) (p:bK K a1 c2 s_.Definitions) (q:bK K a4 c5 s_.Components) (d:bK K a7 c8 s_.Meetings) (r:bK K a10 c11 s_.Allowed) (t:bK K a13 c14 s_.Hidden):
  Calls prog 183 ([zA #[zS a1 s_.Definitions.length c2,zS a4 s_.Components.length c5,zS a7 s_.Meetings.length c8,zS a10 s_.Allowed.length c11,zS a13 s_.Hidden.length c14],str a,str b]:List Value).toArray w (dD fun v w'=>v=zT #[str R.1,zB R.2]/\aF G K (L) w'):=by
 refine aBe func183 ?_;unfold nE at hm
 refine tD ?_;refine aGh fun u x y=>?_
 refine aGh fun e z J=>?_;refine aGh fun g V h=>?_
 iterate 8 refine aBL ?_
 refine aC (rD (vs:=[zP (some ⟨e,0,none⟩),zP (some ⟨g,0,none⟩)]) rfl) ?_;obtain ⟨a0,i,j,k,a2⟩:=aF.lendBp h zt1
 obtain ⟨a3,c,l,m,a5⟩:=aF.lendBp k .head
 obtain ⟨a6,n,hm⟩:=aB hm
 exact aCO call221 (gM n m (d.mono (zL i c)) (j.mono c) l) aL
theorem iB {s_:(List aO)} {a:aO} {R:Bool} (hm:cU s_ a=some R) (b:aF G K (L) w) (c:bK K a1 c2 s_):
  Calls prog 182 ([zS a1 s_.length c2,str a]:List Value).toArray w (dD fun v w'=>v=zB R/\aF G K (L) w'):=by
 exact aL
theorem uV {a9:(List Definition)} {b0:(List aY)} {b2:(List bB)} {a6 a4:(List aO)} {a1:(List GPoint)} {y:(List bC)} {J:List (Dp.Hd bC)} {q:(List (aO × Bool))} {e:Nat} {a3:aO} {c5:(List Int)} {c d:Int} {b3:(List GPoint)} {R:((List bC) × (List (aO × Bool)))} (hm:kK a9 b0 b2 a6 a4 a1 y q a3 c5 c d b3=some R) (hs:aF G K (aP 127 K a20 c21 (aV J y)::rows [97,2] J y::gV e q::box b1 200 [zS a2 a9.length c3,zS a5 b0.length c6,zS a8 b2.length c9,zS a11 a6.length c12,zS a14 a4.length c15,zS a17 a1.length c18,zS a20 y.length c21,zM (some e)]::L) w) (hG:G.lo=0) (h4:bK K a2 c3 a9) (h7:bK K a5 c6 b0) (n5:bK K a8 c9 b2) (h3:bK K a11 c12 a6) (h5:bK K a14 c15 a4) (h6:bK K a17 c18 a1) (e8:List.length J=List.length y) (h8:bK K a25 c26 c5) (d0:bK K a28 c29 b3):
  Calls prog 126 ([zP (some ⟨b1,0,none⟩),str a3,zS a25 c5.length c26,i64 c,i64 d,zS a28 b3.length c29]:List Value).toArray w (dD fun v w'=>∃ e9 f0 d8,v=zT #[]/\List.length d8=List.length R.1/\aF G K (aP 127 K e9 f0 (aV d8 R.1)::rows [97,2] d8 R.1::gV e R.2::box b1 200 [zS a2 a9.length c3,zS a5 b0.length c6,zS a8 b2.length c9,zS a11 a6.length c12,zS a14 a4.length c15,zS a17 a1.length c18,zS e9 R.1.length f0,zM (some e)]::L) w'):=by
 let r:=[zS a2 a9.length c3,zS a5 b0.length c6,zS a8 b2.length c9,zS a11 a6.length c12,zS a14 a4.length c15,zS a17 a1.length c18,zS a20 y.length c21,zM (some e)]
 let V:=aP 127 K a20 c21 (aV J y)
 let a0:=rows [97,2] J y
 refine aN func126 rfl (by kernel_rfl) (by show (6:Nat)<=101;decide) ?_;unfold kK at hm
 refine aJ (aJ (bQ [0,1,2,3,4,5] (fun f w=>∃ d9,kV a4 a1 y q a3 c5 c d b3 d9=some R/\f 27=zB d9/\aF G K (V::a0::gV e q::box b1 200 r::L) w) ?_ ?_))
 ·rintro f n6 ⟨d9,hm,h9,f1⟩
  unfold kV at hm
  refine aD ?_
  rcases aM hm with ⟨f2,hm⟩|⟨f2,hm⟩
  ·exact aL
  ·refine aR f2 h9 (bA (aD (rB [0,3,4,5] (fun f w=>∃ d1 c7 d2 d3,eE a1 y q c d b3 d1 c7=some R/\f 1=str d1/\f 2=zS d2 c7.length d3/\bK K d2 d3 c7/\aF G K (V::a0::gV e q::box b1 200 r::L) w) ?_ ?_)))
   ·rintro f n7 ⟨d1,c7,d2,d3,hm,i0,i1,i2,i3⟩
    unfold eE at hm
    refine aK (aZ i0 (aZ i1 ?_));obtain ⟨m,i4,hm⟩:=aB hm
    refine aT (vs:=[str d1,zS d2 c7.length d3]) call181 rfl (aAV i4 i3 hG i2) ?_
    rintro _ n8 ⟨rfl,f3⟩
    refine aI (v:=zT #[str m.1,zB m.2]) (aC (bP rfl rfl) (aC (bP rfl rfl) (aG (v:=str m.1) (aG (v:=zB m.2) (aH (aK (aI (v:=zP (some ⟨b1,0,none⟩)) (aC (jF rfl) (aC (bG (t':=5) aUx rfl rfl) (aC (cX aHT f3 (i:=3) rfl rfl rfl) ?_))))))))));obtain ⟨d4,i5,hm⟩:=aB hm
    refine aT (vs:=[zS a17 a1.length c18]) call56 rfl (aAZ i5 f3 h6) ?_
    rintro _ n9 ⟨a,b,u,rfl,b4,f4⟩
    refine aG (v:=zS a d4.length b) (aH (aK (aI (v:=zS a d4.length b) (aI (v:=i64 c) (aI (v:=zS a28 b3.length c29) ?_)))));obtain ⟨b6,f5,hm⟩:=aB hm
    refine aC (dQ gR rfl d0 rfl rfl rfl f5) ?_;obtain ⟨o0,i6,i7⟩:=bK.el (sz:=3) rfl d0 f5
    obtain ⟨f6,f7,rfl,i8⟩:=i7
    refine aC (eQ (t:=0) (vs:=[i64 b6.Definition,i64 b6.Part,zS f6 b6.Values.length f7]) aBh f4 i6 rfl rfl rfl) ?_;obtain ⟨f8,i9,hm⟩:=aB hm
    refine aT (vs:=[zA #[i64 b6.Definition,i64 b6.Part,zS f6 b6.Values.length f7]]) call89 rfl (tL i9 f4 i8) ?_
    rintro _ j0 ⟨o,p,rfl,f9⟩
    obtain ⟨o1,d5,hm⟩:=aB hm
    obtain ⟨⟨o2,o3⟩,g0⟩:=aFU b4 d5
    have g1:=cR f9 (i:=1) rfl (nG b4 d5 g0)
    refine aC (dH gR rfl g1 rfl rfl rfl d5) ?_
    have j1:aF G K (aP 2 K o p f8.Values::aP 97 K a b (aV u d4)::rows [2] u d4::V::a0::gV e q::box b1 200 r::L) j0:=f9
    obtain ⟨b7,a7,hm⟩:=aB hm
    refine aNA (i:=0) (tys:=[2]) (hd':=((o,p):Dp.Hd GPoint)) (e':=(f8:GPoint)) (hds:=u) sizeOf97 j1 b4 rfl rfl rfl rfl rfl d5 g0 a7 rfl ?_
    intro j2 (e0:aF G K (aP 97 K a b (aV (List.set u c.toNat (o,p)) b7)::rows [2] (List.set u c.toNat (o,p)) b7::V::a0::gV e q::box b1 200 r::L) j2)
    refine aH (rB [0,3,4,12] (fun f w=>∃ h j,kU y q c d m h=some R/\f 14=zS a h.length b/\List.length j=List.length h/\aF G K (aP 97 K a b (aV j h)::rows [2] j h::V::a0::gV e q::box b1 200 r::L) w) ?_ ?_)
    ·rintro f o4 ⟨h,j,hm,g2,g3,j3⟩
     unfold kU at hm
     refine aK (aI (v:=str m.1) ?_);obtain ⟨o5,j4,hm⟩:=aB hm
     refine aC (aKE rfl rfl j4) (aI (v:=i64 c) ?_);obtain ⟨o6,j5,hm⟩:=aB hm
     refine aT (vs:=[i64 c]) call84 rfl (aFF j3 j5) ?_
     rintro _ o7 ⟨rfl,j6⟩
     obtain ⟨o8,j7,hm⟩:=aB hm
     refine aC (aKE rfl rfl j7) ?_;obtain ⟨o9,j8,hm⟩:=aB hm
     refine aC (aKE rfl rfl j8) (aI (v:=i64 d) ?_);obtain ⟨p0,j9,hm⟩:=aB hm
     refine aT (vs:=[i64 d]) call84 rfl (aFF j6 j9) ?_
     rintro _ p1 ⟨rfl,k0⟩
     obtain ⟨p2,k1,hm⟩:=aB hm
     refine aC (aKE rfl rfl k1) ?_;obtain ⟨p3,k2,hm⟩:=aB hm
     refine aC (aKE rfl rfl k2) (aZ g2 ?_);obtain ⟨p4,p5,k3,p6,k4,k5⟩:=aF.lendD' (i:=0) k0 g3 rfl rfl
     obtain ⟨p7,k6,hm⟩:=aB hm
     refine aT (vs:=[zS a h.length b]) call27 rfl (yF k6 k4 hG k3) ?_
     rintro _ p8 ⟨rfl,k7⟩
     have d6:=k5 _ _ k7
     obtain ⟨c8,k8,hm⟩:=aB hm
     refine aC (aKE rfl rfl k8) (aG (v:=str c8) (aH (aK (aI (v:=zP (some ⟨b1,0,none⟩)) (aC (jF rfl) (aC (bG (t':=7) aQa rfl rfl) (aC (cX aPZ d6 (i:=5) rfl rfl rfl) (aI (v:=str c8) (aC (aSP (kv:=q) (k:=c8) (z:=(false:Bool)) runUnderlying198 ko_9 zeroValue4 d6 (i:=4) rfl rfl rfl) (aC (tC rfl) (aH ?_)))))))))))
     rcases aM hm with ⟨g4,hm⟩|⟨g4,hm⟩
     ·refine aU g4 rfl (aK (aI (v:=zP (some ⟨b1,0,none⟩)) (aC (jF rfl) (aC (bG (t':=7) aQa rfl rfl) (aC (cX aPZ d6 (i:=5) rfl rfl rfl) (aI (v:=str c8) ?_))))));obtain ⟨b8,k9,hm⟩:=aB hm
      refine aIE (i:=4) (k:=c8) (v:=true) runUnderlying198 ko_9 d6 rfl rfl rfl rfl k9 (fun e1 (g5:aF G K (aP 97 K a b (aV j h)::rows [2] j h::V::a0::gV e b8::box b1 200 r::L) e1)=>(aH (aX (aI (v:=zP (some ⟨b1,0,none⟩)) (aI (v:=zP (some ⟨b1,0,none⟩)) (aC (jF rfl) (aC (bG (t':=6) aQb rfl rfl) (aC (cX sc_123 g5 (i:=5) rfl rfl rfl) (aI (v:=str m.1) (aI (v:=i64 c) (aI (v:=i64 d) (aZ g2 (aC (jE (vs:=[(0,str m.1),(1,i64 c),(2,i64 d),(3,zS a h.length b)]) (cs:=[str m.1,i64 c,i64 d,zS a h.length b]) aSW rfl (by kernel_rfl)) ?_)))))))))))))
      have l0:aF G K (aP 97 K a b (aV j h)::aFo [2] j h::V::a0::gV e b8::box b1 200 r::L) e1:=aF.closeL (i:=1) g5 rfl g3
      have l1:aF G K (rows [97,2] ([((a,b),j)]:List (Dp.Hd bC)) ([⟨m.1,c,d,h⟩]:List bC)::V::a0::gV e b8::box b1 200 r::L) e1:=aF.rowsOneS (tys:=[97,2]) (hd:=(((a,b),j):Dp.Hd bC)) (x:=(⟨m.1,c,d,h⟩:bC)) l0
      refine dU (Kt:=K) (xs:=aV ([((a,b),j)]:List (Dp.Hd bC)) ([⟨m.1,c,d,h⟩]:List bC)) (cs:=[str m.1,i64 c,i64 d,zS a h.length b]) (vs:=[(0,zA #[str m.1,i64 c,i64 d,zS a h.length b])]) yI aNI rfl rfl l1 rfl (by kernel_rfl) rfl rfl rfl ⟨rfl,trivial⟩ ?_
      intro l2 l3 (l4:aF G K (aP 127 K l2 1 (aV ([((a,b),j)]:List (Dp.Hd bC)) ([⟨m.1,c,d,h⟩]:List bC))::rows [97,2] ([((a,b),j)]:List (Dp.Hd bC)) ([⟨m.1,c,d,h⟩]:List bC)::V::a0::gV e b8::box b1 200 r::L) l3)
      obtain ⟨b5,g6,hm⟩:=aB hm
      refine aSO (i:=0) (tys:=[97,2]) (hds:=J) (hds2:=([((a,b),j)]:List (Dp.Hd bC))) yI underlying123 aNI rfl rfl l4 e8 rfl rfl rfl g6 rfl rfl rfl rfl ?_
      intro b9 c0 l5 (l6:aF G K (aP 127 K b9 c0 (aV (J++([((a,b),j)]:List (Dp.Hd bC))) b5)::rows [97,2] (J++([((a,b),j)]:List (Dp.Hd bC))) b5::gV e b8::box b1 200 r::L) l5)
      refine aC (jF rfl) (aC (bG (t':=6) aQb rfl rfl) (dT (i:=3) (ns:=[zS b9 b5.length c0]) (us:=[zS a2 a9.length c3,zS a5 b0.length c6,zS a8 b2.length c9,zS a11 a6.length c12,zS a14 a4.length c15,zS a17 a1.length c18,zS b9 b5.length c0,zM (some e)]) sizeOf123 l6 rfl rfl rfl rfl rfl (fW rfl) rfl rfl ?_))
      intro l7 (l8:aF G K (aP 127 K b9 c0 (aV (J++([((a,b),j)]:List (Dp.Hd bC))) b5)::rows [97,2] (J++([((a,b),j)]:List (Dp.Hd bC))) b5::gV e b8::box b1 200 [zS a2 a9.length c3,zS a5 b0.length c6,zS a8 b2.length c9,zS a11 a6.length c12,zS a14 a4.length c15,zS a17 a1.length c18,zS b9 b5.length c0,zM (some e)]::L) l7)
      obtain rfl:=zI hm
      exact bN (retQ_0n results126 ⟨b9,c0,(J++([((a,b),j)]:List (Dp.Hd bC))),rfl,(aPr e8 rfl g6),l8⟩)
     ·exact aL
    refine aK (aI (v:=i64 d) (aC (R_geq rfl rfl) (aH ?_)))
    rcases aM hm with ⟨e2,hm⟩|⟨e2,hm⟩
    ·refine aU e2 rfl (aX (aZ (v:=zS a b7.length b) (Eq.trans rfl (congrArg (fun n=>zS a n b) (bS a7))) (aI (v:=i64 d) (aI (v:=zS a28 b3.length c29) ?_))));obtain ⟨c1,g7,hm⟩:=aB hm
     refine aC (dQ gR rfl d0 rfl rfl rfl g7) ?_;obtain ⟨p9,m0,m1⟩:=bK.el (sz:=3) rfl d0 g7
     obtain ⟨g8,g9,rfl,m2⟩:=m1
     refine aC (eQ (t:=0) (vs:=[i64 c1.Definition,i64 c1.Part,zS g8 c1.Values.length g9]) aBh e0 m0 rfl rfl rfl) ?_;obtain ⟨h0,m3,hm⟩:=aB hm
     refine aT (vs:=[zA #[i64 c1.Definition,i64 c1.Part,zS g8 c1.Values.length g9]]) call89 rfl (tL m3 e0 m2) ?_
     rintro _ m4 ⟨c2,c4,rfl,m5⟩
     obtain ⟨q0,e3,hm⟩:=aB hm
     refine aC (dH gR rfl g1 rfl rfl rfl e3) ?_;obtain ⟨⟨q1,q2⟩,m6⟩:=aFU (aDr (hd:=((o,p):Dp.Hd GPoint)) b4 a7) e3
     have m7:aF G K (aP 2 K c2 c4 h0.Values::aP 97 K a b (aV (List.set u c.toNat (o,p)) b7)::rows [2] (List.set u c.toNat (o,p)) b7::V::a0::gV e q::box b1 200 r::L) m4:=m5
     obtain ⟨e4,e5,hm⟩:=aB hm
     refine aNA (i:=0) (tys:=[2]) (hd':=((c2,c4):Dp.Hd GPoint)) (e':=(h0:GPoint)) (hds:=(List.set u c.toNat (o,p))) sizeOf97 m7 (aDr (hd:=((o,p):Dp.Hd GPoint)) b4 a7) rfl rfl rfl rfl rfl e3 m6 e5 rfl ?_
     intro m8 (m9:aF G K (aP 97 K a b (aV (List.set (List.set u c.toNat (o,p)) d.toNat (c2,c4)) e4)::rows [2] (List.set (List.set u c.toNat (o,p)) d.toNat (c2,c4)) e4::V::a0::gV e q::box b1 200 r::L) m8)
     exact aH ⟨bZ,e4,(List.set (List.set u c.toNat (o,p)) d.toNat (c2,c4)),hm,(Eq.trans (Eq.trans rfl (congrArg (fun n=>zS a n b) (bS a7))) (congrArg (fun n=>zS a n b) (bS e5))),(aDr (hd:=((c2,c4):Dp.Hd GPoint)) (aDr (hd:=((o,p):Dp.Hd GPoint)) b4 a7) e5),m9⟩
    ·exact aR e2 rfl (bA (aD ⟨bZ,b7,(List.set u c.toNat (o,p)),hm,(Eq.trans rfl (congrArg (fun n=>zS a n b) (bS a7))),(aDr (hd:=((o,p):Dp.Hd GPoint)) b4 a7),e0⟩))
   refine aK (aI (v:=zP (some ⟨b1,0,none⟩)) (aC (jF rfl) (aC (bG (t':=0) aMq rfl rfl) (aC (bG (t':=4) fa_36_4 rfl rfl) (aC (cX aIH f1 (i:=3) rfl rfl rfl) (aI (v:=str a3) ?_))))));obtain ⟨q3,n0,hm⟩:=aB hm
   refine aT (vs:=[zS a14 a4.length c15,str a3]) call182 rfl (iB n0 f1 h5) ?_
   rintro _ q4 ⟨rfl,h1⟩
   refine aH ?_
   rcases aM hm with ⟨e6,hm⟩|⟨e6,hm⟩
   ·exact aU e6 rfl (aX (aG (v:=str ([116,97,117]:aO)) (aG (v:=zS none 0 0) (aH ⟨bZ,([116,97,117]:aO),[],none,0,hm,rfl,rfl,aFj _,h1⟩))))
   ·exact aR e6 rfl (bA (aD ⟨bZ,a3,c5,a25,c26,hm,rfl,rfl,h8,h1⟩))
 refine aX (aI (v:=str a3) (aC (aSG rfl rfl) (aI (v:=zB (!(a3 == ([116,97,117]:aO)))) ?_)))
 rcases aM hm with ⟨l,hm⟩|⟨l,hm⟩
 ·refine jO l rfl rfl (aI (v:=zP (some ⟨b1,0,none⟩)) (jO l rfl rfl (aC (jF rfl) (jO l rfl rfl (aC (bG (t':=0) aMq rfl rfl) (jO l rfl rfl (aC (bG (t':=3) aPt rfl rfl) (jO l rfl rfl (aC (cX aIH hs (i:=3) rfl rfl rfl) (jO l rfl rfl (aI (v:=str a3) (jO l rfl rfl ?_))))))))))));obtain ⟨h2,n1,hm⟩:=aB hm
  refine aT (vs:=[zS a11 a6.length c12,str a3]) call182 rfl (iB n1 hs h3) ?_
  rintro _ q5 ⟨rfl,n2⟩
  exact jO l rfl rfl (aC (tC rfl) (aC (aAa (v:=zB (!h2)) l rfl rfl) (aH ⟨bZ,!h2,hm,rfl,n2⟩)))
 ·exact rZ l rfl rfl (rZ l rfl rfl (rZ l rfl rfl (rZ l rfl rfl (rZ l rfl rfl (rZ l rfl rfl (rZ l rfl rfl (rZ l rfl rfl (aC (aCg (v:=zB false) l rfl rfl) (aH ⟨bZ,false,hm,rfl,hs⟩)))))))))
theorem yM {a b:(List Int)} {R:Bool} (hm:eR a b=some R) (g:aF G K (L) w) (h:bK K a1 c2 a) (i:bK K a4 c5 b):
  Calls prog 184 ([zS a1 a.length c2,zS a4 b.length c5]:List Value).toArray w (dD fun v w'=>v=zB R/\aF G K (L) w'):=by
 refine aBe func184 ?_;unfold eR at hm
 refine tD ?_
 rcases aM hm with ⟨c,hm⟩|⟨c,hm⟩
 ·exact aL
 ·refine tD ?_;refine aQ [] (fun f w=>oW=some R/\aF G K (L) w) aL ?_
  obtain ⟨j,d,ho⟩:=aB hm
  exact cE [0,1,12] d (fun e f w=>f 13=i64 e/\aF G K (L) w) aL aL
theorem xJ {g:(List Definition)} {h:(List aY)} {j:(List bB)} {k l:(List aO)} {n:(List GPoint)} {b4:(List bC)} {d3:List (Dp.Hd bC)} {e5:(List (aO × Bool))} {e:Nat} {b5 b6:Int} {a b:(List bR)} {R:((List bC) × (List (aO × Bool)))} (hm:pP g h j k l n b4 e5 b5 b6 a b=some R) (hs:aF G K (aP 127 K a20 c21 (aV d3 b4)::rows [97,2] d3 b4::gV e e5::box b1 200 [zS a2 g.length c3,zS a5 h.length c6,zS a8 j.length c9,zS a11 k.length c12,zS a14 l.length c15,zS a17 n.length c18,zS a20 b4.length c21,zM (some e)]::L) w) (hG:G.lo=0) (h4:bK K a2 c3 g) (h7:bK K a5 c6 h) (e8:bK K a8 c9 j) (e9:bK K a11 c12 k) (f0:bK K a14 c15 l) (h9:bK K a17 c18 n) (l4:List.length d3=List.length b4) (f1:bK K a25 c26 a) (f2:bK K a28 c29 b):
  Calls prog 127 ([zP (some ⟨b1,0,none⟩),i64 b5,i64 b6,zS a25 a.length c26,zS a28 b.length c29]:List Value).toArray w (dD fun v w'=>∃ f3 f4 d5,v=zT #[]/\List.length d5=List.length R.1/\aF G K (aP 127 K f3 f4 (aV d5 R.1)::rows [97,2] d5 R.1::gV e R.2::box b1 200 [zS a2 g.length c3,zS a5 h.length c6,zS a8 j.length c9,zS a11 k.length c12,zS a14 l.length c15,zS a17 n.length c18,zS f3 R.1.length f4,zM (some e)]::L) w'):=by
 refine aN func127 rfl (by kernel_rfl) (by show (5:Nat)<=77;decide) ?_;unfold pP at hm
 refine aK (aI (v:=zS a25 a.length c26) (aC (bD (len:=a.length) mM rfl) (aI (v:=i64 0) (aH (aQ [] (fun f w=>∃ b7 f5 f6 f7 d6,mT b7 f5=some R/\List.length d6=List.length b7/\aF G K (aP 127 K f6 f7 (aV d6 b7)::rows [97,2] d6 b7::gV e f5::box b1 200 [zS a2 g.length c3,zS a5 h.length c6,zS a8 j.length c9,zS a11 k.length c12,zS a14 l.length c15,zS a17 n.length c18,zS f6 b7.length f7,zM (some e)]::L) w) aL ?_)))))
 obtain ⟨l5,i0,ho⟩:=aB hm
 refine iE [0,1,2,4,22,23] i0 (fun a0 d7 b8 f w=>∃ b9 c0 b0,f 24=i64 b8/\List.length b0=List.length a0/\aF G K (aP 127 K b9 c0 (aV b0 a0)::rows [97,2] b0 a0::gV e d7::box b1 200 [zS a2 g.length c3,zS a5 h.length c6,zS a8 j.length c9,zS a11 k.length c12,zS a14 l.length c15,zS a17 n.length c18,zS b9 a0.length c0,zM (some e)]::L) w) aL ?_
 ·rintro a0 d7 b8 f8 f l6 hm hr ⟨b9,c0,b0,d8,l7,f9⟩
  unfold fE at hm
  refine aK (aC (cK d8 rfl) (aH (aJ ?_)))
  rcases aM hm with ⟨g0,hm⟩|⟨g0,hm⟩
  ·refine aU g0 rfl (bA (aD (aJ (aQ [0,1,2,4,22,23,24] (fun f w=>∃ b2 d9 c7 c8 c1,mU b8 b2 d9=some f8/\List.length c1=List.length b2/\aF G K (aP 127 K c7 c8 (aV c1 b2)::rows [97,2] c1 b2::gV e d9::box b1 200 [zS a2 g.length c3,zS a5 h.length c6,zS a8 j.length c9,zS a11 k.length c12,zS a14 l.length c15,zS a17 n.length c18,zS c7 b2.length c8,zM (some e)]::L) w) ?_ ?_))))
   ·rintro f l8 ⟨b2,d9,c7,c8,c1,hm,i1,i2⟩
    unfold mU at hm
    exact aD (aX (aC (cP d8 rfl) (aI (v:=i64 (wr (b8+1))) (aH ⟨_,(zI hm).symm,bZ,c7,c8,c1,rfl,i1,i2⟩))))
   refine aK ?_;obtain ⟨c,g1,hm⟩:=aB hm
   refine aC (dQ mM rfl f1 rfl rfl d8 g1) ?_;obtain ⟨l9,i3,i4⟩:=bK.el (sz:=4) rfl f1 g1
   obtain ⟨p,q,rfl,i5⟩:=i4
   refine aC (eQ (t:=0) (vs:=[str c.B,i64 c.Next.Definition,i64 c.Next.Part,zS p c.Next.Values.length q]) aLo f9 i3 rfl rfl rfl) (cN (vs:=[str ([]:aO),i64 0,i64 0,zS none 0 0]) zeroValue176 f9 rfl (fun a3 m0 i6=>(dT (i:=0) (ns:=[str c.B,i64 c.Next.Definition,i64 c.Next.Part,zS p c.Next.Values.length q]) (us:=[str c.B,i64 c.Next.Definition,i64 c.Next.Part,zS p c.Next.Values.length q]) sizeOf176 i6 rfl rfl rfl rfl rfl (fW rfl) rfl rfl (fun i7 (g2:aF G K (box a3 176 [str c.B,i64 c.Next.Definition,i64 c.Next.Part,zS p c.Next.Values.length q]::aP 127 K b9 c0 (aV b0 a0)::rows [97,2] b0 a0::gV e d7::box b1 200 [zS a2 g.length c3,zS a5 h.length c6,zS a8 j.length c9,zS a11 k.length c12,zS a14 l.length c15,zS a17 n.length c18,zS b9 a0.length c0,zM (some e)]::L) i7)=>(aH (aK (aC (bG (t':=0) sC rfl rfl) (aC (cX pE g2 (i:=0) rfl rfl rfl) ?_))))))))
   obtain ⟨o,i8,hm⟩:=aB hm
   refine aT (vs:=[str c.B]) call125 rfl (vO i8 g2 hG) ?_
   rintro _ m1 ⟨J,V,rfl,m2⟩
   refine aI (v:=zT #[str o.1,zS J o.2.1.length V,zB o.2.2]) (aC (bP rfl rfl) (aC (bP rfl rfl) (aC (bP rfl rfl) (aG (v:=str o.1) (aG (v:=zS J o.2.1.length V) (aG (v:=zB o.2.2) (aH (aK (aI (v:=zS a28 b.length c29) (aC (bD (len:=b.length) mM rfl) (aI (v:=i64 0) (aH (aQ [0,1,2,4,22,23,24] (fun f w=>∃ c2 g3 g4 g5 e0,mV b8 c2 g3=some f8/\List.length e0=List.length c2/\aF G K (aP 127 K g4 g5 (aV e0 c2)::rows [97,2] e0 c2::gV e g3::box b1 200 [zS a2 g.length c3,zS a5 h.length c6,zS a8 j.length c9,zS a11 k.length c12,zS a14 l.length c15,zS a17 n.length c18,zS g4 c2.length g5,zM (some e)]::L) w) aL ?_)))))))))))))
   obtain ⟨m3,i9,ho⟩:=aB hm
   refine iE [0,1,2,4,11,12,13,22,23,24,35,36] i9 (fun m a4 c4 f w=>∃ u x r,f 37=i64 c4/\List.length r=List.length m/\aF G K (aP 2 K J V o.2.1::box a3 176 [str c.B,i64 c.Next.Definition,i64 c.Next.Part,zS p c.Next.Values.length q]::aP 127 K u x (aV r m)::rows [97,2] r m::gV e a4::box b1 200 [zS a2 g.length c3,zS a5 h.length c6,zS a8 j.length c9,zS a11 k.length c12,zS a14 l.length c15,zS a17 n.length c18,zS u m.length x,zM (some e)]::L) w) aL ?_
   ·rintro m a4 c4 g6 f m4 hm hr ⟨u,x,r,e1,j0,g7⟩
    unfold fD at hm
    refine aK (aC (cK e1 rfl) (aH (aJ ?_)))
    rcases aM hm with ⟨g8,hm⟩|⟨g8,hm⟩
    ·refine aU g8 rfl (bA (aD (aJ (aQ [0,1,2,4,11,12,13,22,23,24,35,36,37] (fun f w=>∃ b3 e2 d0 d1 c5,iP c4 b3 e2=some g6/\List.length c5=List.length b3/\aF G K (aP 127 K d0 d1 (aV c5 b3)::rows [97,2] c5 b3::aP 2 K J V o.2.1::box a3 176 [str c.B,i64 c.Next.Definition,i64 c.Next.Part,zS p c.Next.Values.length q]::gV e e2::box b1 200 [zS a2 g.length c3,zS a5 h.length c6,zS a8 j.length c9,zS a11 k.length c12,zS a14 l.length c15,zS a17 n.length c18,zS d0 b3.length d1,zM (some e)]::L) w) ?_ ?_))))
     ·rintro f m5 ⟨b3,e2,d0,d1,c5,hm,j1,j2⟩
      unfold iP at hm
      exact aD (aX (aC (cP e1 rfl) (aI (v:=i64 (wr (c4+1))) (aH ⟨_,(zI hm).symm,bZ,d0,d1,c5,rfl,j1,(aF.arr 4 [2,3,0,1] j2 rfl)⟩))))
     refine aK ?_;obtain ⟨d,g9,hm⟩:=aB hm
     refine aC (dQ mM rfl f2 rfl rfl e1 g9) ?_;obtain ⟨m6,j3,j4⟩:=bK.el (sz:=4) rfl f2 g9
     obtain ⟨y,z,rfl,j5⟩:=j4
     refine aC (eQ (t:=0) (vs:=[str d.B,i64 d.Next.Definition,i64 d.Next.Part,zS y d.Next.Values.length z]) aLo g7 j3 rfl rfl rfl) (cN (vs:=[str ([]:aO),i64 0,i64 0,zS none 0 0]) zeroValue176 g7 rfl (fun d2 m7 j6=>(dT (i:=0) (ns:=[str d.B,i64 d.Next.Definition,i64 d.Next.Part,zS y d.Next.Values.length z]) (us:=[str d.B,i64 d.Next.Definition,i64 d.Next.Part,zS y d.Next.Values.length z]) sizeOf176 j6 rfl rfl rfl rfl rfl (fW rfl) rfl rfl (fun j7 (h0:aF G K (box d2 176 [str d.B,i64 d.Next.Definition,i64 d.Next.Part,zS y d.Next.Values.length z]::aP 2 K J V o.2.1::box a3 176 [str c.B,i64 c.Next.Definition,i64 c.Next.Part,zS p c.Next.Values.length q]::aP 127 K u x (aV r m)::rows [97,2] r m::gV e a4::box b1 200 [zS a2 g.length c3,zS a5 h.length c6,zS a8 j.length c9,zS a11 k.length c12,zS a14 l.length c15,zS a17 n.length c18,zS u m.length x,zM (some e)]::L) j7)=>(aH (aK (aC (bG (t':=0) sC rfl rfl) (aC (cX pE h0 (i:=0) rfl rfl rfl) ?_))))))))
     obtain ⟨a1,j8,hm⟩:=aB hm
     refine aT (vs:=[str d.B]) call125 rfl (vO j8 h0 hG) ?_
     rintro _ m8 ⟨h1,h2,rfl,h3⟩
     refine aI (v:=zT #[str a1.1,zS h1 a1.2.1.length h2,zB a1.2.2]) (aC (bP rfl rfl) (aC (bP rfl rfl) (aC (bP rfl rfl) (aG (v:=str a1.1) (aG (v:=zS h1 a1.2.1.length h2) (aG (v:=zB a1.2.2) (aH (aK (aI (v:=zP (some ⟨b1,0,none⟩)) (aC (jF rfl) (aC (bG (t':=0) aMq rfl rfl) (aC (jB (us:=[zS a2 g.length c3,zS a5 h.length c6,zS a8 j.length c9,zS a11 k.length c12,zS a14 l.length c15]) aMp h3 (i:=7) rfl rfl rfl rfl) (aI (v:=str o.1) (aI (v:=str a1.1) ?_))))))))))))))
     obtain ⟨a6,j9,hm⟩:=aB hm
     refine aT (vs:=[zA #[zS a2 g.length c3,zS a5 h.length c6,zS a8 j.length c9,zS a11 k.length c12,zS a14 l.length c15],str o.1,str a1.1]) call183 rfl (aBm (s_:=⟨g,h,j,k,l⟩) j9 h3 h4 h7 e8 e9 f0) ?_
     rintro _ m9 ⟨rfl,n0⟩
     refine aI (v:=zT #[str a6.1,zB a6.2]) (aC (bP rfl rfl) (aC (bP rfl rfl) (aG (v:=str a6.1) (aG (v:=zB a6.2) (aH (aJ (bQ [0,1,2,4,11,12,13,16,20,22,23,24,35,36,37] (fun f w=>∃ e3,fC g h j k l n b5 b6 c o m a4 c4 d a6 e3=some g6/\f 63=zB e3/\aF G K (box d2 176 [str d.B,i64 d.Next.Definition,i64 d.Next.Part,zS y d.Next.Values.length z]::aP 2 K J V o.2.1::box a3 176 [str c.B,i64 c.Next.Definition,i64 c.Next.Part,zS p c.Next.Values.length q]::aP 127 K u x (aV r m)::rows [97,2] r m::gV e a4::box b1 200 [zS a2 g.length c3,zS a5 h.length c6,zS a8 j.length c9,zS a11 k.length c12,zS a14 l.length c15,zS a17 n.length c18,zS u m.length x,zM (some e)]::L) w) ?_ ?_)))))))
     ·rintro f n1 ⟨e3,hm,k0,e4⟩
      unfold fC at hm
      refine aD ?_
      rcases aM hm with ⟨h5,hm⟩|⟨h5,hm⟩
      ·refine aU h5 k0 (aX (aI (v:=zP (some ⟨b1,0,none⟩)) (aI (v:=str a6.1) (aI (v:=zS J o.2.1.length V) (aI (v:=i64 b5) (aI (v:=i64 b6) (aC (bG (t':=1) wD rfl rfl) (aC (jB (us:=[i64 c.Next.Definition,i64 c.Next.Part,zS p c.Next.Values.length q]) aBh e4 (i:=2) rfl rfl rfl rfl) (aC (bG (t':=1) wD rfl rfl) (aC (jB (us:=[i64 d.Next.Definition,i64 d.Next.Part,zS y d.Next.Values.length z]) aBh e4 (i:=0) rfl rfl rfl rfl) (dU (Kt:=K) (xs:=([c.Next,d.Next]:List GPoint)) (cs:=[i64 c.Next.Definition,i64 c.Next.Part,zS p c.Next.Values.length q,i64 d.Next.Definition,i64 d.Next.Part,zS y d.Next.Values.length z]) (vs:=[(0,zA #[i64 c.Next.Definition,i64 c.Next.Part,zS p c.Next.Values.length q]),(1,zA #[i64 d.Next.Definition,i64 d.Next.Part,zS y d.Next.Values.length z])]) gR aDb rfl rfl e4 rfl (by kernel_rfl) rfl rfl rfl ⟨⟨p,q,rfl,i5⟩,⟨y,z,rfl,j5⟩,trivial⟩ (fun h6 h8 (k1:aF G K (aP 97 K h6 2 ([c.Next,d.Next]:List GPoint)::box d2 176 [str d.B,i64 d.Next.Definition,i64 d.Next.Part,zS y d.Next.Values.length z]::aP 2 K J V o.2.1::box a3 176 [str c.B,i64 c.Next.Definition,i64 c.Next.Part,zS p c.Next.Values.length q]::aP 127 K u x (aV r m)::rows [97,2] r m::gV e a4::box b1 200 [zS a2 g.length c3,zS a5 h.length c6,zS a8 j.length c9,zS a11 k.length c12,zS a14 l.length c15,zS a17 n.length c18,zS u m.length x,zM (some e)]::L) h8)=>?_))))))))))))
       obtain ⟨n2,a7,k2,k3,k4⟩:=aF.lendSp k1 (zR _) zt2
       obtain ⟨k5,a9,k6,k7,k8⟩:=aF.lendSp k3 a7 .head
       have k9:aF G k5 (aP 127 K u x (aV r m)::rows [97,2] r m::gV e a4::box b1 200 [zS a2 g.length c3,zS a5 h.length c6,zS a8 j.length c9,zS a11 k.length c12,zS a14 l.length c15,zS a17 n.length c18,zS u m.length x,zM (some e)]::box d2 176 [str d.B,i64 d.Next.Definition,i64 d.Next.Part,zS y d.Next.Values.length z]::box a3 176 [str c.B,i64 c.Next.Definition,i64 c.Next.Part,zS p c.Next.Values.length q]::L) h8:=(aF.arr 6 [2,3,4,5,0,1] k7 rfl)
       obtain ⟨n3,l0,hm⟩:=aB hm
       refine aT (vs:=[zP (some ⟨b1,0,none⟩),str a6.1,zS J o.2.1.length V,i64 b5,i64 b6,zS h6 ([c.Next,d.Next]:List GPoint).length 2]) call126 rfl (uV l0 k9 hG (h4.mono (zL a7 a9)) (h7.mono (zL a7 a9)) (e8.mono (zL a7 a9)) (e9.mono (zL a7 a9)) (f0.mono (zL a7 a9)) (h9.mono (zL a7 a9)) j0 (k2.mono a9) k6) ?_
       rintro _ n4 ⟨n5,n6,n7,rfl,n8,l1⟩
       have l2:=k8 _ _ l1
       have n9:=k4 _ _ l2
       exact aL
      ·exact aL
     exact aL
    ·exact aL
  ·exact aL
end Gv
namespace Gv
open Gv.Hp renaming le_refl→zR
open Go.Value renaming slice→zS,bool→zB,pointer→zP,agg→zA,tuple→zT,map→zM
open Option.some renaming inj→zI
open Gv.Hp renaming le_trans→zL
open Go Go.Proofs Go.Proofs.Tryz
set_option maxRecDepth 20000
set_option maxHeartbeats 40000000
variable {G:nX} {K Kf:Hp} {L:List fJ} {w:World} {a1 a4 a7 a10 a13 a16 a2 a5 a6 a9 a11 a14 a17 a20 a23 a26 a29 a19:Option Addr} {c2 c5 c8 c11 c14 c17 b1 c3 c6 b4 b5 c7 c10 c18 c21 c24 c27 c30 c20:Nat}
theorem aDo {s_:bE} {b:(List GPoint)} {R:((List bC) × Bool)} (hm:iI s_ b=some R) (hs:aF G K (L) w) (hG:G.lo=0) (h3:bK K a1 c2 s_.Definitions) (h6:bK K a4 c5 s_.Components) (h9:bK K a7 c8 s_.Meetings) (h8:bK K a10 c11 s_.Allowed) (i0:bK K a13 c14 s_.Hidden) (f9:bK K a16 c17 b):
  Calls prog 83 ([zA #[zS a1 s_.Definitions.length c2,zS a4 s_.Components.length c5,zS a7 s_.Meetings.length c8,zS a10 s_.Allowed.length c11,zS a13 s_.Hidden.length c14],zS a16 b.length c17]:List Value).toArray w (dD fun v w'=>∃ i1 i2 g0,v=zT #[zS i1 R.1.length i2,zB R.2]/\List.length g0=List.length R.1/\aF G K (aP 127 K i1 i2 (aV g0 R.1)::rows [97,2] g0 R.1::L) w'):=by
 let k:=[zS a1 s_.Definitions.length c2,zS a4 s_.Components.length c5,zS a7 s_.Meetings.length c8,zS a10 s_.Allowed.length c11,zS a13 s_.Hidden.length c14]
 let i3:=aP 127 K none 0 (aV ([]:List (Dp.Hd bC)) ([]:List bC))
 refine aBe func83 ?_;unfold iI at hm
 refine tD ?_;refine aGh fun l q7 k4=>?_
 refine tD ?_;refine aID aO Bool k4 ?_
 intro a k5 (q8:aF G K (gV a ([]:(List (aO × Bool)))::box l 36 k::L) k5)
 refine aC (jE (vs:=[(0,zA #[zS a1 s_.Definitions.length c2,zS a4 s_.Components.length c5,zS a7 s_.Meetings.length c8,zS a10 s_.Allowed.length c11,zS a13 s_.Hidden.length c14]),(1,zS a16 b.length c17),(3,zM (some a))]) (cs:=[zS a1 s_.Definitions.length c2,zS a4 s_.Components.length c5,zS a7 s_.Meetings.length c8,zS a10 s_.Allowed.length c11,zS a13 s_.Hidden.length c14,zS a16 b.length c17,zS none 0 0,zM (some a)]) bs_200 rfl (by kernel_rfl)) (aGh fun c k6 k7=>?_)
 refine tD ?_;refine aQ [1,6] (fun f w=>∃ j b0 g1 x g2 g3 d8 V a0,Hp.le K j/\jY s_ b b0 g1 x=some R/\f 7=zS V x.length a0/\List.length d8=List.length b0/\aF G j (aP 172 j V a0 x::aP 127 K g2 g3 (aV d8 b0)::rows [97,2] d8 b0::box c 200 [zS a1 s_.Definitions.length c2,zS a4 s_.Components.length c5,zS a7 s_.Meetings.length c8,zS a10 s_.Allowed.length c11,zS a13 s_.Hidden.length c14,zS a16 b.length c17,zS g2 b0.length g3,zM (some a)]::gV a g1::L) w) ?_ ?_
 ·rintro f q9 ⟨j,b0,g1,x,g2,g3,d8,V,a0,b1,hm,r0,r1,r2⟩
  unfold jY at hm
  refine tD ?_;refine aQ [6] (fun f w=>∃ c3 i4 i5 i6 g4,aAP c3 i4=some R/\List.length g4=List.length c3/\aF G j (aP 127 K i5 i6 (aV g4 c3)::rows [97,2] g4 c3::box c 200 [zS a1 s_.Definitions.length c2,zS a4 s_.Components.length c5,zS a7 s_.Meetings.length c8,zS a10 s_.Allowed.length c11,zS a13 s_.Hidden.length c14,zS a16 b.length c17,zS i5 c3.length i6,zM (some a)]::gV a i4::L) w) aL ?_
  obtain ⟨r3,k8,ho⟩:=aB hm
  refine iE [1,6,7,68] k8 (fun c4 i7 d9 f w=>∃ g5 g6 e0,f 69=i64 d9/\List.length e0=List.length c4/\aF G j (aP 172 j V a0 x::aP 127 K g5 g6 (aV e0 c4)::rows [97,2] e0 c4::box c 200 [zS a1 s_.Definitions.length c2,zS a4 s_.Components.length c5,zS a7 s_.Meetings.length c8,zS a10 s_.Allowed.length c11,zS a13 s_.Hidden.length c14,zS a16 b.length c17,zS g5 c4.length g6,zM (some a)]::gV a i7::L) w) aL ?_
  ·rintro c4 i7 d9 i8 f r4 hm hr ⟨g5,g6,e0,r5,r6,r7⟩
   unfold jX at hm
   refine tD ?_
   rcases aM hm with ⟨k9,hm⟩|⟨k9,hm⟩
   ·refine tD ?_;refine aQ [1,6,7,68,69] (fun f w=>∃ b2 g7 e1 e2 c6,tG d9 b2 g7=some i8/\List.length c6=List.length b2/\aF G j (aP 127 K e1 e2 (aV c6 b2)::rows [97,2] c6 b2::aP 172 j V a0 x::box c 200 [zS a1 s_.Definitions.length c2,zS a4 s_.Components.length c5,zS a7 s_.Meetings.length c8,zS a10 s_.Allowed.length c11,zS a13 s_.Hidden.length c14,zS a16 b.length c17,zS e1 b2.length e2,zM (some a)]::gV a g7::L) w) ?_ ?_
    ·rintro f r8 ⟨b2,g7,e1,e2,c6,hm,l0,r9⟩
     unfold tG at hm
     refine tD ?_;exact ⟨_,(zI hm).symm,bZ,e1,e2,c6,rfl,l0,aDq⟩
    refine tD ?_;refine aQ [1,6,7,68,69] (fun f w=>∃ c7 i9 j0 j1 g8,tH d9 c7 i9=some i8/\List.length g8=List.length c7/\aF G j (aP 127 K j0 j1 (aV g8 c7)::rows [97,2] g8 c7::aP 172 j V a0 x::box c 200 [zS a1 s_.Definitions.length c2,zS a4 s_.Components.length c5,zS a7 s_.Meetings.length c8,zS a10 s_.Allowed.length c11,zS a13 s_.Hidden.length c14,zS a16 b.length c17,zS j0 c7.length j1,zM (some a)]::gV a i9::L) w) aL ?_
    obtain ⟨s0,l1,ho⟩:=aB hm
    refine iE [1,6,7,17,68,69] l1 (fun y g9 j2 f w=>∃ c9 d0 b3,f 18=i64 j2/\List.length b3=List.length y/\aF G j (aP 172 j V a0 x::aP 127 K c9 d0 (aV b3 y)::rows [97,2] b3 y::box c 200 [zS a1 s_.Definitions.length c2,zS a4 s_.Components.length c5,zS a7 s_.Meetings.length c8,zS a10 s_.Allowed.length c11,zS a13 s_.Hidden.length c14,zS a16 b.length c17,zS c9 y.length d0,zM (some a)]::gV a g9::L) w) aL ?_
    ·rintro y g9 j2 s1 f s2 hm hr ⟨c9,d0,b3,s3,l2,l3⟩
     unfold iY at hm
     refine tD ?_
     rcases aM hm with ⟨l4,hm⟩|⟨l4,hm⟩
     ·refine tD ?_;refine bT ?_
      obtain ⟨l5,b4,h0,s4,l6⟩:=aF.lendSp l3 (zR _) .head
      refine st_w [(0,0),(1,0),(2,0),(3,0),(4,0),(5,0),(6,0),(7,0),(8,0),(9,0),(10,0),(11,1)] fun l7 s5=>?_;refine tD ?_
      obtain ⟨s6,h1,hm⟩:=aB hm
      have j3:=aJX h0 h1
      refine bW rfl (fun _ _=>dH vW rfl j3 rfl rfl rfl h1) ?_;obtain ⟨s7,s8,l8⟩:=bK.el (sz:=1) rfl h0 h1
      obtain ⟨s9,t0,rfl,l9⟩:=l8
      refine tD ?_;obtain ⟨t1,j4,hm⟩:=aB hm
      refine bW rfl (fun _ _=>dH vW rfl j3 rfl rfl rfl j4) ?_;obtain ⟨t2,t3,m0⟩:=bK.el (sz:=1) rfl h0 j4
      obtain ⟨t4,t5,rfl,m1⟩:=m0
      refine tD ?_;refine nT rfl ?_
      have m2:aF G l5 (aP 127 K c9 d0 (aV b3 y)::rows [97,2] b3 y::gV a g9::box c 200 [zS a1 s_.Definitions.length c2,zS a4 s_.Components.length c5,zS a7 s_.Meetings.length c8,zS a10 s_.Allowed.length c11,zS a13 s_.Hidden.length c14,zS a16 b.length c17,zS c9 y.length d0,zM (some a)]::L) l7:=aDq
      obtain ⟨t6,m3,hm⟩:=aB hm
      refine aCO call127 (xJ m3 m2 hG (h3.mono (zL b1 b4)) (h6.mono (zL b1 b4)) (h9.mono (zL b1 b4)) (h8.mono (zL b1 b4)) (i0.mono (zL b1 b4)) (f9.mono (zL b1 b4)) l2 l9 m1) ?_
      rintro _ t7 ⟨t8,t9,u0,rfl,u1,j5⟩
      refine bN (aD ⟨⟨_,j5⟩,?_⟩)
      refine aCP ?_
      have u2:=l6 _ _ j5
      exact aL
     ·exact aL
   ·exact aL
 have m4:aF G K (i3::rows [97,2] ([]:List (Dp.Hd bC)) ([]:List bC)::box c 200 [zS a1 s_.Definitions.length c2,zS a4 s_.Components.length c5,zS a7 s_.Meetings.length c8,zS a10 s_.Allowed.length c11,zS a13 s_.Hidden.length c14,zS a16 b.length c17,zS none 0 0,zM (some a)]::gV a ([]:(List (aO × Bool)))::box l 36 k::L) k6:=aF.nil (α:=Cells _) (aF.rowsNil (α:=bC) (tys:=[97,2]) k7) 127 K
 have m5:=aF.nil (α:=(List bR)) m4 172 K
 obtain ⟨u3,m6,ho⟩:=aB hm
 refine aIA [1,2,6,24,25] m6 (fun d b5 b6 e3 f w=>∃ z o p m b7 b8,Hp.le K z/\f 7=zS b7 b6.length b8/\f 26=i64 e3/\List.length m=List.length d/\aF G z (aP 172 z b7 b8 b6::aP 127 K o p (aV m d)::rows [97,2] m d::box c 200 [zS a1 s_.Definitions.length c2,zS a4 s_.Components.length c5,zS a7 s_.Meetings.length c8,zS a10 s_.Allowed.length c11,zS a13 s_.Hidden.length c14,zS a16 b.length c17,zS o d.length p,zM (some a)]::gV a b5::box l 36 k::L) w) ?_ ?_
 ·exact ⟨K,none,0,[],none,0,(zR _),rfl,rfl,rfl,m5⟩
 ·rintro d b5 b6 e3 j6 f u4 hm hr ⟨z,o,p,m,b7,b8,r,u5,u6,u7,u8⟩
  unfold iH at hm
  refine tD ?_
  rcases aM hm with ⟨m7,hm⟩|⟨m7,hm⟩
  ·refine tD ?_;refine aQ [1,2,6,24,25,26] (fun f w=>∃ d1 b9 h2 e4 e5 e6 d2 e7 e8,Hp.le z d1/\tI e3 b9 h2 e4=some j6/\f 7=zS e7 e4.length e8/\List.length d2=List.length b9/\aF G d1 (aP 172 d1 e7 e8 e4::aP 127 K e5 e6 (aV d2 b9)::rows [97,2] d2 b9::box c 200 [zS a1 s_.Definitions.length c2,zS a4 s_.Components.length c5,zS a7 s_.Meetings.length c8,zS a10 s_.Allowed.length c11,zS a13 s_.Hidden.length c14,zS a16 b.length c17,zS e5 b9.length e6,zM (some a)]::gV a h2::box l 36 k::L) w) ?_ ?_
   ·rintro f u9 ⟨d1,b9,h2,e4,e5,e6,d2,e7,e8,m8,hm,m9,n0,n1⟩
    unfold tI at hm
    refine tD ?_;exact ⟨_,(zI hm).symm,bZ,d1,e5,e6,d2,e7,e8,(zL r m8),m9,rfl,n0,n1⟩
   refine tD ?_;obtain ⟨n,n2,hm⟩:=aB hm
   refine tD ?_;obtain ⟨v0,v1,n3⟩:=bK.el (sz:=3) rfl f9 n2
   obtain ⟨e9,f0,rfl,n4⟩:=n3
   refine tD ?_;refine aGf fun f1 v2 v3=>?_
   refine tD ?_;refine aFe fun v4 n5=>?_
   refine tD ?_;obtain ⟨d3,n6,hm⟩:=aB hm
   refine aCO call124 (aMX n6 n5 hG (h3.mono r) (n4.mono r)) ?_
   rintro _ j7 ⟨j8,f2,f3,rfl,t,j9⟩
   refine tD ?_
   rcases aM hm with ⟨n7,hm⟩|⟨n7,hm⟩
   ·refine tD ?_;refine aCe (lT (aCf (lT (lT (lT ?_)))))
    have n8:=hr _ (zI hm).symm
    subst n8
    have hm:(some ([],false))=some R:=ho
    clear hr ho
    have v5:aF G j8 (i3::rows [97,2] ([]:List (Dp.Hd bC)) ([]:List bC)::aP 176 j8 f2 f3 d3.1::box f1 97 [i64 n.Definition,i64 n.Part,zS e9 n.Values.length f0]::aP 172 z b7 b8 b6::aP 127 K o p (aV m d)::rows [97,2] m d::box c 200 [zS a1 s_.Definitions.length c2,zS a4 s_.Components.length c5,zS a7 s_.Meetings.length c8,zS a10 s_.Allowed.length c11,zS a13 s_.Hidden.length c14,zS a16 b.length c17,zS o d.length p,zM (some a)]::gV a b5::box l 36 k::L) j7:=aF.nil (α:=Cells _) (aF.rowsNil (α:=bC) (tys:=[97,2]) j9) 127 K
    obtain rfl:=zI hm
    exact aCf (lT (lT (aNy results83 rfl rfl ⟨none,0,([]:List (Dp.Hd bC)),rfl,rfl,aDq⟩)))
   ·refine tD ?_;obtain ⟨e,u,k0,h4⟩:=aF.giveSp j9 (zR _) .head
    replace h4:aF G e (box f1 97 [i64 n.Definition,i64 n.Part,zS e9 n.Values.length f0]::aP 172 z b7 b8 b6::aP 127 K o p (aV m d)::rows [97,2] m d::box c 200 [zS a1 s_.Definitions.length c2,zS a4 s_.Components.length c5,zS a7 s_.Meetings.length c8,zS a10 s_.Allowed.length c11,zS a13 s_.Hidden.length c14,zS a16 b.length c17,zS o d.length p,zM (some a)]::gV a b5::box l 36 k::L) j7:=h4
    refine dU (Kt:=e) (xs:=([d3.1]:List (List bR))) (cs:=[zS f2 d3.1.length f3]) (vs:=[(0,zS f2 d3.1.length f3)]) vW aNJ rfl rfl h4 rfl (by kernel_rfl) rfl rfl rfl ⟨⟨f2,f3,rfl,k0⟩,trivial⟩ (fun o0 o1 (o2:aF G e (aP 172 e o0 1 ([d3.1]:List (List bR))::box f1 97 [i64 n.Definition,i64 n.Part,zS e9 n.Values.length f0]::aP 172 z b7 b8 b6::aP 127 K o p (aV m d)::rows [97,2] m d::box c 200 [zS a1 s_.Definitions.length c2,zS a4 s_.Components.length c5,zS a7 s_.Meetings.length c8,zS a10 s_.Allowed.length c11,zS a13 s_.Hidden.length c14,zS a16 b.length c17,zS o d.length p,zM (some a)]::gV a b5::box l 36 k::L) o1)=>?_)
    obtain ⟨a2,o3,hm⟩:=aB hm
    refine xP (i:=1) e vW underlying171 aNJ rfl rfl o2 rfl (zL t u) (zR _) o3 rfl rfl rfl rfl (fun _ _ _ h=>El.one h) (fun c0 c1 o4 (v6:aF G e (box f1 97 [i64 n.Definition,i64 n.Part,zS e9 n.Values.length f0]::aP 172 e c0 c1 a2::aP 127 K o p (aV m d)::rows [97,2] m d::box c 200 [zS a1 s_.Definitions.length c2,zS a4 s_.Components.length c5,zS a7 s_.Meetings.length c8,zS a10 s_.Allowed.length c11,zS a13 s_.Hidden.length c14,zS a16 b.length c17,zS o d.length p,zM (some a)]::gV a b5::box l 36 k::L) o4)=>(tD ?_))
    refine aQ [1,2,6,7,24,25,26] (fun f w=>∃ a3 f4 f5 f6 d4,oX e3 a2 a3 f4=some j6/\List.length d4=List.length a3/\aF G e (aP 127 K f5 f6 (aV d4 a3)::rows [97,2] d4 a3::aP 172 e c0 c1 a2::box c 200 [zS a1 s_.Definitions.length c2,zS a4 s_.Components.length c5,zS a7 s_.Meetings.length c8,zS a10 s_.Allowed.length c11,zS a13 s_.Hidden.length c14,zS a16 b.length c17,zS f5 a3.length f6,zM (some a)]::gV a f4::box l 36 k::L) w) ?_ ?_
    ·rintro f v7 ⟨a3,f4,f5,f6,d4,hm,o5,v8⟩
     unfold oX at hm
     refine tD ?_;exact ⟨bZ,e,a3,f4,a2,f5,f6,d4,c0,c1,(zL t u),hm,rfl,o5,aDq⟩
    obtain ⟨v9,o6,ho⟩:=aB hm
    refine iE [1,2,6,7,8,24,25,26,44,45] o6 (fun q f7 k1 f w=>∃ a5 a6 J,f 46=i64 k1/\List.length J=List.length q/\aF G e (aP 172 e c0 c1 a2::aP 127 K a5 a6 (aV J q)::rows [97,2] J q::box c 200 [zS a1 s_.Definitions.length c2,zS a4 s_.Components.length c5,zS a7 s_.Meetings.length c8,zS a10 s_.Allowed.length c11,zS a13 s_.Hidden.length c14,zS a16 b.length c17,zS a5 q.length a6,zM (some a)]::gV a f7::box l 36 k::L) w) aL ?_
    ·rintro q f7 k1 w0 f w1 hm hr ⟨a5,a6,J,w2,o7,w3⟩
     unfold lV at hm
     refine tD ?_
     rcases aM hm with ⟨o8,hm⟩|⟨o8,hm⟩
     ·refine tD ?_;refine bT (tD ?_)
      obtain ⟨g,o9,hm⟩:=aB hm
      refine tD ?_;obtain ⟨w4,w5,p0⟩:=bK.el (sz:=4) rfl k0 o9
      obtain ⟨d5,d6,rfl,p1⟩:=p0
      refine tD ?_;refine aGf fun k2 w6 w7=>?_
      refine aFe fun w8 p2=>?_;refine tD ?_
      obtain ⟨p3,p4,hm⟩:=aB hm
      refine aCO call125 (vO p4 p2 hG) ?_
      rintro _ w9 ⟨p5,p6,rfl,p7⟩
      refine tD ?_;refine dU (Kt:=e) (xs:=([g.Next]:List GPoint)) (cs:=[i64 g.Next.Definition,i64 g.Next.Part,zS d5 g.Next.Values.length d6]) (vs:=[(0,zA #[i64 g.Next.Definition,i64 g.Next.Part,zS d5 g.Next.Values.length d6])]) gR aDb rfl rfl p7 rfl (by kernel_rfl) rfl rfl rfl ⟨⟨d5,d6,rfl,p1⟩,trivial⟩ (fun p8 k3 (p9:aF G e (aP 97 e p8 1 ([g.Next]:List GPoint)::aP 2 K p5 p6 p3.2.1::box k2 176 [str g.B,i64 g.Next.Definition,i64 g.Next.Part,zS d5 g.Next.Values.length d6]::aP 172 e c0 c1 a2::aP 127 K a5 a6 (aV J q)::rows [97,2] J q::box c 200 [zS a1 s_.Definitions.length c2,zS a4 s_.Components.length c5,zS a7 s_.Meetings.length c8,zS a10 s_.Allowed.length c11,zS a13 s_.Hidden.length c14,zS a16 b.length c17,zS a5 q.length a6,zM (some a)]::gV a f7::box l 36 k::L) k3)=>?_)
      obtain ⟨x0,a8,q0,q1,x1⟩:=aF.lendSp p9 (zL (zL r t) u) zt1
      obtain ⟨q2,a9,q3,x2,x3⟩:=aF.lendSp q1 a8 .head
      have q4:aF G q2 (aP 127 K a5 a6 (aV J q)::rows [97,2] J q::gV a f7::box c 200 [zS a1 s_.Definitions.length c2,zS a4 s_.Components.length c5,zS a7 s_.Meetings.length c8,zS a10 s_.Allowed.length c11,zS a13 s_.Hidden.length c14,zS a16 b.length c17,zS a5 q.length a6,zM (some a)]::box k2 176 [str g.B,i64 g.Next.Definition,i64 g.Next.Part,zS d5 g.Next.Values.length d6]::aP 172 e c0 c1 a2::box l 36 k::L) k3:=aDq
      obtain ⟨x4,q5,hm⟩:=aB hm
      exact aCO call126 (uV q5 q4 hG (h3.mono (zL (zL (zL (zL r t) u) a8) a9)) (h6.mono (zL (zL (zL (zL r t) u) a8) a9)) (h9.mono (zL (zL (zL (zL r t) u) a8) a9)) (h8.mono (zL (zL (zL (zL r t) u) a8) a9)) (i0.mono (zL (zL (zL (zL r t) u) a8) a9)) (f9.mono (zL (zL (zL (zL r t) u) a8) a9)) o7 (q0.mono a9) q3) aL
     ·exact aL
  ·exact aL
theorem fK {b:(List (List GPoint))} {d:(List (aO × Int))} {r4:Nat} {a:(List lS)} {s_:(List GPoint)} {R:(Int × (List (List GPoint)) × (List (aO × Int)))} (hm:eD b d a s_=some R) (J:aF G K (aP 56 Kf a2 c3 b::gV r4 d::aP 193 K a5 c6 a::box b1 190 [zS a2 b.length c3,zM (some r4),zS a5 a.length c6,Value.func (.func 27) #[] #[]]::L) w) (V:G.lo=0) (a0:Hp.le Kf K) (j:bK Kf a7 c8 s_):
  Calls prog 118 ([zP (some ⟨b1,0,none⟩),zS a7 s_.length c8]:List Value).toArray w (dD fun v w'=>∃ l m,v=i64 R.1/\aF G K (aP 56 Kf l m R.2.1::gV r4 R.2.2::aP 193 K a5 c6 a::box b1 190 [zS l R.2.1.length m,zM (some r4),zS a5 a.length c6,Value.func (.func 27) #[] #[]]::L) w'):=by
 let e:=[zS a2 b.length c3,zM (some r4),zS a5 a.length c6,Value.func (.func 27) #[] #[]]
 refine aBe func118 ?_;unfold eD at hm
 refine tD ?_;obtain ⟨n,a1,hm⟩:=aB hm
 refine pT (vs:=[zS a7 s_.length c8]) (caps:=[]) (us:=[zS a7 s_.length c8]) rfl call27 rfl rfl (yF a1 J V (j.mono a0)) ?_
 rintro _ b6 ⟨rfl,o⟩
 refine tD ?_;refine aC (R_look (kv:=d) (k:=n) (z:=(0:Int)) runUnderlying65 ko_9 zeroValue2 o (i:=1) rfl rfl rfl) ?_
 iterate 7 refine aBL ?_
 refine rB [] (fun f w=>∃ p g q r t,fY p g q=some R/\f 6=i64 p/\aF G K (aP 56 Kf r t g::gV r4 q::aP 193 K a5 c6 a::box b1 190 [zS r g.length t,zM (some r4),zS a5 a.length c6,Value.func (.func 27) #[] #[]]::L) w) aL (tD ?_)
 rcases aM hm with ⟨a3,hm⟩|⟨a3,hm⟩
 ·refine tD ?_;obtain ⟨c,a4,hm⟩:=aB hm
  refine aIE (i:=1) (k:=n) (v:=(b.length:Int)) runUnderlying65 ko_9 o rfl rfl rfl rfl a4 (fun a6 (a8:aF G K (aP 56 Kf a2 c3 b::gV r4 c::aP 193 K a5 c6 a::box b1 190 e::L) a6)=>(tD ?_));refine dU (Kt:=Kf) (xs:=([s_]:List (List GPoint))) (cs:=[zS a7 s_.length c8]) (vs:=[(0,zS a7 s_.length c8)]) qV aMm rfl rfl a8 rfl (by kernel_rfl) rfl rfl rfl ⟨⟨a7,c8,rfl,j⟩,trivial⟩ (fun a9 b0 (b2:aF G K (aP 56 Kf a9 1 ([s_]:List (List GPoint))::aP 56 Kf a2 c3 b::gV r4 c::aP 193 K a5 c6 a::box b1 190 e::L) b0)=>?_)
  obtain ⟨u,b3,hm⟩:=aB hm
  refine xP (i:=0) Kf qV underlying52 aMm rfl rfl b2 rfl (zR _) (zR _) b3 rfl rfl rfl rfl (fun _ _ _ h=>El.one h) (fun x y b4 (b7:aF G K (aP 56 Kf x y u::gV r4 c::aP 193 K a5 c6 a::box b1 190 e::L) b4)=>(tD ?_));refine aFe fun b8 b5=>?_
  refine tD ?_;exact ⟨bZ,(b.length:Int),u,c,x,y,hm,rfl,b5⟩
 ·exact aL
theorem pA {a:aO} {d:(List GPoint)} {e:(List (List GPoint))} {q:(List (aO × Int))} {b:Nat} {g:(List lS)} {p:Int} {r:Nat} {R:((List (List GPoint)) × (List (aO × Int)) × (List lS))} (hm:gZ a d e q g p=some R) (hs:aF G K (aP 56 Kf a6 c7 e::gV b q::aP 193 K a9 c10 g::box b5 190 [zS a6 e.length c7,zM (some b),zS a9 g.length c10,Value.func (.func 27) #[] #[]]::box b4 187 [zP (some ⟨b5,0,none⟩)]::L) w) (t:G.lo=0) (u:Hp.le Kf K) (x:bK Kf a1 c2 d) (c9:eU K a11 r [i64 p]):
  Calls prog 119 ([str a,zS a1 d.length c2,zP (some ⟨b4,0,none⟩),dS a11 r]:List Value).toArray w (dD fun v w'=>∃ y z J V,v=zT #[]/\aF G K (aP 56 Kf y z R.1::gV b R.2.1::aP 193 K J V R.2.2::box b5 190 [zS y R.1.length z,zM (some b),zS J R.2.2.length V,Value.func (.func 27) #[] #[]]::box b4 187 [zP (some ⟨b5,0,none⟩)]::L) w'):=by
 refine aBe func119 ?_;unfold gZ at hm
 refine bQ [] (fun f w=>∃ h a0 k a2 a3 a4 a5,kW h a0 k=some R/\aF G K (aP 193 K a4 a5 k::aP 56 Kf a2 a3 h::gV b a0::box b5 190 [zS a2 h.length a3,zM (some b),zS a4 k.length a5,Value.func (.func 27) #[] #[]]::box b4 187 [zP (some ⟨b5,0,none⟩)]::L) w) aL ?_;obtain ⟨b7,a7,d0,b8,l⟩:=aF.lendBp hs zt4
 refine aNB (C:=fun w'=>∃ L',aF G b7 L' w') [] Tryz_mixed (by kernel_rfl) (fun d1 b9=>?_)
 have m:=aF.mono b8 b9
 refine aJK 0 ?_;refine aJK 1 ?_
 refine aJK 2 ?_;refine aJK 3 ?_
 refine aJK 5 ?_;refine aJK 6 ?_
 refine aJK 7 ?_;refine aJK 8 ?_
 refine aPs (i:=4) (j:=9) (by kernel_rfl) rfl rfl ?_ ?_
 ·iterate 1 refine aBL ?_
  refine bN (aD ⟨fun _=>⟨_,m⟩,?_⟩)
  refine lA (i:=9) (by kernel_rfl) rfl ?_;obtain ⟨n,c0,hm⟩:=aB hm
  refine aCO call118 (fK (Kf:=Kf) c0 m t (zL u a7) x) ?_
  rintro _ d2 ⟨d3,d4,rfl,a8⟩
  refine bN (aD ⟨fun _=>⟨_,a8⟩,?_⟩)
  refine tM (i:=10) rfl (by kernel_rfl) ⟨_,a8⟩ (fun _ _=>jE (vs:=[(0,i64 p),(1,str a),(2,i64 n.1)]) (cs:=[i64 p,str a,i64 n.1]) bs_193 rfl (by kernel_rfl)) (lA (i:=11) (by kernel_rfl) rfl (aIs ([⟨p,a,n.1⟩]:List lS) fun d5 d6 c1=>?_));refine bN (aD ⟨fun _=>⟨_,c1⟩,?_⟩)
  refine lA (i:=12) (by kernel_rfl) rfl ?_;obtain ⟨d7,d8,hm⟩:=aB hm
  refine st_p fun d9 c45 e0 c3=>?_;refine bN (aD ⟨fun _=>⟨_,c3⟩,?_⟩)
  refine aJK 13 ?_;refine aJK 14 ?_
  refine lA (i:=15) (by kernel_rfl) rfl (aFe fun e1 b0=>?_);refine bN (aD ⟨fun _=>⟨_,b0⟩,?_⟩)
  refine aHb (by kernel_rfl) ?_
  have e2:=l _ _ b0
  exact aL
 ·obtain ⟨c,c4,hm⟩:=aB hm
  refine aCO call118 (fK (Kf:=Kf) c4 m t (zL u a7) x) ?_
  rintro _ e3 ⟨e4,e5,rfl,o⟩
  refine bN (aD ⟨fun _=>⟨_,o⟩,?_⟩)
  refine tM (i:=10) rfl (by kernel_rfl) ⟨_,o⟩ (fun _ _=>jE (vs:=[(0,i64 p),(1,str a),(2,i64 c.1)]) (cs:=[i64 p,str a,i64 c.1]) bs_193 rfl (by kernel_rfl)) (aPs (i:=4) (j:=11) (by kernel_rfl) rfl rfl ?_ ?_)
  ·iterate 1 refine aBL ?_
   refine bN (aD ⟨fun _=>⟨_,o⟩,?_⟩)
   refine lA (i:=11) (by kernel_rfl) rfl (aIs ([⟨p,a,c.1⟩]:List lS) fun e6 e7 c5=>?_);refine bN (aD ⟨fun _=>⟨_,c5⟩,?_⟩)
   refine lA (i:=12) (by kernel_rfl) rfl ?_;obtain ⟨e8,e9,hm⟩:=aB hm
   refine st_p fun f0 f1 f2 c6=>?_;refine bN (aD ⟨fun _=>⟨_,c6⟩,?_⟩)
   refine aJK 13 ?_;refine aJK 14 ?_
   refine lA (i:=15) (by kernel_rfl) rfl (aFe fun f3 b1=>?_);refine bN (aD ⟨fun _=>⟨_,b1⟩,?_⟩)
   refine aHb (by kernel_rfl) ?_
   have f4:=l _ _ b1
   exact aL
  ·refine aIs ([⟨p,a,c.1⟩]:List lS) fun f5 f6 b2=>?_;refine bN (aD ⟨fun _=>⟨_,b2⟩,?_⟩)
   refine lA (i:=4) (by kernel_rfl) rfl ?_
   iterate 1 refine aBL ?_
   refine bN (aD ⟨fun _=>⟨_,b2⟩,?_⟩)
   refine lA (i:=12) (by kernel_rfl) rfl ?_;obtain ⟨f7,f8,hm⟩:=aB hm
   refine st_p fun f9 g0 g1 c8=>?_;refine bN (aD ⟨fun _=>⟨_,c8⟩,?_⟩)
   refine aJK 13 ?_;refine aJK 14 ?_
   refine lA (i:=15) (by kernel_rfl) rfl (aFe fun g2 b3=>?_);refine bN (aD ⟨fun _=>⟨_,b3⟩,?_⟩)
   refine aHb (by kernel_rfl) ?_
   have g3:=l _ _ b3
   exact aL
theorem xK {t:(List GPoint)} {d:(List (List GPoint))} {q:(List (aO × Int))} {a:Nat} {e:(List lS)} {a2:Int} {r:Nat} {p:bE} {a3:Nat} {R:(Bool × (List (List GPoint)) × (List (aO × Int)) × (List lS))} (hm:mG t d q e a2 p=some R) (hs:aF G K (aP 56 Kf a6 c7 d::gV a q::aP 193 K a9 c10 e::box b5 190 [zS a6 d.length c7,zM (some a),zS a9 e.length c10,Value.func (.func 27) #[] #[]]::box b4 187 [zP (some ⟨b5,0,none⟩)]::L) w) (hG:G.lo=0) (c4:Hp.le Kf K) (h3:bK K a1 c2 t) (c6:eU K a11 r [i64 a2]) (e7:eU K a14 a3 [zS a17 p.Definitions.length c18,zS a20 p.Components.length c21,zS a23 p.Meetings.length c24,zS a26 p.Allowed.length c27,zS a29 p.Hidden.length c30]) (c8:bK K a17 c18 p.Definitions) (c9:bK K a20 c21 p.Components) (d0:bK K a23 c24 p.Meetings) (d1:bK K a26 c27 p.Allowed) (d2:bK K a29 c30 p.Hidden):
  Calls prog 82 ([zS a1 t.length c2,Value.func (.func 119) #[] #[zP (some ⟨b4,0,none⟩),dS a11 r],dS a14 a3]:List Value).toArray w (dD fun v w'=>∃ u a5 a7 a8 b0,v=zB R.1/\Hp.le K u/\aF G u (aP 56 u a5 a7 R.2.1::gV a R.2.2.1::aP 193 K a8 b0 R.2.2.2::box b5 190 [zS a5 R.2.1.length a7,zM (some a),zS a8 R.2.2.2.length b0,Value.func (.func 27) #[] #[]]::box b4 187 [zP (some ⟨b5,0,none⟩)]::L) w'):=by
 let b1:=[zS a6 d.length c7,zM (some a),zS a9 e.length c10,Value.func (.func 27) #[] #[]]
 let g:=[zP (some ⟨b5,0,none⟩)]
 refine aBe func82 ?_;unfold mG at hm
 refine tD ?_;obtain ⟨d3,d4,hm⟩:=aB hm
 refine aCO call83 (aDo d4 hs hG c8 c9 d0 d1 d2 h3) ?_
 rintro _ b2 ⟨e8,e9,f0,rfl,d5,d6⟩
 iterate 4 refine aBL ?_
 obtain ⟨b,b3,d7,_,x,_⟩:=aF.lendD' (i:=0) d6 d5 rfl rfl
 replace x:aF G b (aP 56 Kf a6 c7 d::gV a q::aP 193 K a9 c10 e::box b5 190 b1::box b4 187 g::L) b2:=x
 refine tD ?_;refine aQ [7] (fun f w=>∃ y b6 z b7 b8 b9 c0,mW d3 y b6 z=some R/\aF G b (aP 193 K b9 c0 z::aP 56 b b7 b8 y::gV a b6::box b5 190 [zS b7 y.length b8,zM (some a),zS b9 z.length c0,Value.func (.func 27) #[] #[]]::box b4 187 g::L) w) aL ?_
 have f1:aF G b (aP 56 b a6 c7 d::gV a q::aP 193 K a9 c10 e::box b5 190 b1::box b4 187 g::L) b2:=aF.weak (i:=0) x rfl (fun _ h=>aP.mono (zL c4 b3) h)
 obtain ⟨f2,d8,ho⟩:=aB hm
 refine aIA [1,7,16,17] d8 (fun j J k c1 f w=>∃ l m n o,f 18=i64 c1/\aF G b (aP 56 b l m j::gV a J::aP 193 K n o k::box b5 190 [zS l j.length m,zM (some a),zS n k.length o,Value.func (.func 27) #[] #[]]::box b4 187 g::L) w) aL ?_
 ·rintro j J k c1 f3 f f4 hm hr ⟨l,m,n,o,f5,f6⟩
  unfold fF at hm
  refine tD ?_
  rcases aM hm with ⟨d9,hm⟩|⟨d9,hm⟩
  ·refine tD ?_;refine bT (tD ?_)
   obtain ⟨c,e0,hm⟩:=aB hm
   refine tD ?_;obtain ⟨f7,f8,e1⟩:=bK.el (sz:=4) rfl d7 e0
   obtain ⟨V,a0,rfl,e2⟩:=e1
   refine tD ?_;refine aGf fun e3 f9 g0=>?_
   refine aFe fun e4 g1=>?_;refine tD ?_
   have e5:aF G b (aP 56 b l m j::gV a J::aP 193 K n o k::box b5 190 [zS l j.length m,zM (some a),zS n k.length o,Value.func (.func 27) #[] #[]]::box b4 187 g::box e3 127 [str c.B,i64 c.First,i64 c.Second,zS V c.State.length a0]::L) e4:=aDq
   obtain ⟨g2,e6,hm⟩:=aB hm
   exact pT (vs:=[str c.B,zS V c.State.length a0]) (caps:=[zP (some ⟨b4,0,none⟩),dS a11 r]) (us:=[str c.B,zS V c.State.length a0,zP (some ⟨b4,0,none⟩),dS a11 r]) rfl call119 rfl rfl (pA (Kf:=b) e6 e5 hG (zR _) e2 (c6.mono b3)) aL
  ·exact aL
theorem rA {c9:(List GPoint)} {c:bE} {k5:Nat} {R:(iZ × (List (List GPoint)) × Bool)} (hm:lC c9 c=some R) (hs:aF G K (L) w) (hG:G.lo=0) (h3:bK K a1 c2 c9) (h6:eU K a4 k5 [zS a7 c.Definitions.length c8,zS a10 c.Components.length c11,zS a13 c.Meetings.length c14,zS a16 c.Allowed.length c17,zS a19 c.Hidden.length c20]) (h9:bK K a7 c8 c.Definitions) (g9:bK K a10 c11 c.Components) (h0:bK K a13 c14 c.Meetings) (h1:bK K a16 c17 c.Allowed) (h2:bK K a19 c20 c.Hidden):
  Calls prog 80 ([zS a1 c9.length c2,Value.func (.func 27) #[] #[],Value.func (.func 82) #[] #[dS a4 k5]]:List Value).toArray w (dD fun v w'=>∃ K' e8 e9 f0 f1 f2 f3,v=zT #[zA (zCa R.1 e8 e9 f0 f1),zS f2 R.2.1.length f3,zB R.2.2]/\Hp.le K K'/\aF G K' (aP 9 K e8 e9 R.1.L::aP 92 K f0 f1 R.1.E::aP 56 K' f2 f3 R.2.1::L) w'):=by
 let l:=zG
 refine aBe func80 ?_;unfold lC at hm
 refine tD ?_;refine aGf fun m r1 h4=>?_
 refine tD ?_;refine aID aO Int h4 ?_
 intro a h5 (r2:aF G K (gV a ([]:(List (aO × Int)))::box m 51 l::L) h5)
 iterate 1 refine aBL ?_
 refine aC (jE (vs:=[(1,zM (some a)),(3,Value.func (.func 27) #[] #[])]) (cs:=[zS none 0 0,zM (some a),zS none 0 0,Value.func (.func 27) #[] #[]]) bs_190 rfl (by kernel_rfl)) (aGh fun b r3 r4=>?_);refine aGf fun d r5 r6=>?_
 refine aFe fun h7 h8=>?_;refine tD ?_
 have i0:=aF.nil (α:=(List GPoint)) h8 56 K
 have r7:=aF.nil (α:=lS) i0 193 K
 have i1:aF G K (aP 56 K none 0 ([]:List (List GPoint))::gV a ([]:(List (aO × Int)))::aP 193 K none 0 ([]:List lS)::box b 190 [zS none 0 0,zM (some a),zS none 0 0,Value.func (.func 27) #[] #[]]::box d 187 [zP (some ⟨b,0,none⟩)]::box m 51 l::L) h7:=aDq
 obtain ⟨r8,i2,hm⟩:=aB hm
 refine aCO call118 (fK (Kf:=K) i2 i1 hG (zR _) h3) ?_
 rintro _ r9 ⟨s0,s1,rfl,s2⟩
 refine tD ?_;refine aGf fun s3 s4 s5=>?_
 refine aFe fun s6 i3=>?_;refine tD ?_
 refine aQ [6,9] (fun f w=>∃ a6 V c6 a8 b3 b4 b5 b6,Hp.le K a6/\dX V c6 a8=some R/\aF G a6 (aP 193 K b5 b6 a8::aP 56 a6 b3 b4 V::gV a c6::box b 190 [zS b3 V.length b4,zM (some a),zS b5 a8.length b6,Value.func (.func 27) #[] #[]]::box d 187 [zP (some ⟨b,0,none⟩)]::box m 51 l::L) w) ?_ ?_
 ·rintro f s7 ⟨a6,V,c6,a8,b3,b4,b5,b6,g,hm,i4⟩
  unfold dX at hm
  refine tD ?_;refine bQ [6,9] (fun f w=>∃ a9 b0 a0 a2 d2 b7 b8 b9 c0,jL V a9 b0 a0 a2=some R/\f 12=zP (some ⟨d2,0,none⟩)/\aF G a6 (aP 92 K b9 c0 a2::aP 9 K b7 b8 a0::box d2 51 [i64 a9,i64 b0,zS b7 a0.length b8,zS b9 a2.length c0]::aP 193 K b5 b6 a8::aP 56 a6 b3 b4 V::gV a c6::box b 190 [zS b3 V.length b4,zM (some a),zS b5 a8.length b6,Value.func (.func 27) #[] #[]]::box d 187 [zP (some ⟨b,0,none⟩)]::box m 51 l::L) w) ?_ ?_
  ·rintro f s8 ⟨a9,b0,a0,a2,d2,b7,b8,b9,c0,hm,f4,i5⟩
   unfold jL at hm
   refine tD ?_;obtain ⟨s9,f5,f6,i6,t0⟩:=aF.lendBp i5 zt2
   obtain ⟨t1,c7,i7,i8,t2⟩:=aF.lendBp i6 zt5
   obtain ⟨t3,c1,i9,t4,t5⟩:=aF.lendBp i8 zt5
   refine st_w [(0,0),(1,0),(2,0),(3,0),(4,0),(5,1),(6,1),(7,1),(8,2),(9,2)] fun t6 n=>?_;refine bW rfl (fun _ ⟨_,n⟩=>eQ (t:=0) (vs:=[i64 a9,i64 b0,zS b7 a0.length b8,zS b9 a2.length c0]) ag_51 n (f6.mono (zL c7 c1)) f4 rfl rfl) (bW rfl (fun _ ⟨_,n⟩=>cD (t:=0) aEs n i9 rfl rfl) (bW rfl (fun _ _=>jF rfl) (bW rfl (fun _ _=>bG (t':=0) aCk rfl rfl) (bW rfl (fun _ ⟨_,n⟩=>cD (t:=0) aQd n (i7.mono c1) rfl rfl) (nT rfl (aC (eQ (t:=0) (vs:=[i64 a9,i64 b0,zS b7 a0.length b8,zS b9 a2.length c0]) ag_51 n (f6.mono (zL c7 c1)) f4 rfl rfl) (bN (aD ⟨⟨_,n⟩,?_⟩))))))))
   refine nT rfl ?_;obtain ⟨t7,j0,j1,j2,j3⟩:=aF.lendSp n (zL (zL (zL g f5) c7) c1) zt1
   obtain ⟨t8,j4,j5,j6,j7⟩:=aF.lendSp j2 (zL (zL (zL (zL g f5) c7) c1) j0) .head
   obtain ⟨t9,j8,hm⟩:=aB hm
   refine aCO call122 (aIl (t:=⟨a9,b0,a0,a2⟩) j8 j6 hG (j1.mono j4) j5) ?_
   rintro _ u0 ⟨rfl,j9⟩
   have k0:=j7 _ _ j9
   have u1:=j3 _ _ k0
   exact aL
  obtain ⟨u2,z,d3,k1,d4⟩:=aF.lendBp i4 zt3
  obtain ⟨k2,e,u3,k3,d5⟩:=aF.lendBp k1 zt3
  refine aNB (C:=fun w'=>∃ L',aF G k2 L' w') [16] Tryz_mixed (by kernel_rfl) (fun u4 k4=>?_)
  have k:=aF.mono k3 k4
  refine aJK 0 ?_;refine aJK 1 ?_
  refine aJK 2 ?_;refine tM (i:=3) rfl (by kernel_rfl) ⟨_,k⟩ (fun _ ⟨_,k⟩=>cD (t:=0) aQd k (d3.mono e) rfl rfl) (aJK 4 ?_)
  refine aJK 5 ?_;refine aJK 6 ?_
  refine aJK 7 ?_;refine tM (i:=8) rfl (by kernel_rfl) ⟨_,k⟩ (fun _ ⟨_,k⟩=>cD (t:=2) aNL k (d3.mono e) rfl rfl) (aJK 10 ?_)
  refine aJK 11 ?_;refine aJK 12 ?_
  refine tM (i:=13) rfl (by kernel_rfl) ⟨_,k⟩ (fun _ ⟨_,k⟩=>cD (t:=2) aNL k (d3.mono e) rfl rfl) (aPs (i:=9) (j:=15) (by kernel_rfl) rfl rfl ?_ ?_)
  ·obtain ⟨u5,u6,k6,k7,k8⟩:=aF.lendSp k (zL (zL g z) e) .head
   obtain ⟨u7,k9,hm⟩:=aB hm
   refine aCO call121 (aCV k9 k7 k6) ?_
   rintro _ u8 ⟨u9,v0,rfl,l0⟩
   have f7:=k8 _ _ l0
   refine bN (aD ⟨fun _=>⟨_,f7⟩,?_⟩)
   refine aPs (i:=14) (j:=15) (by kernel_rfl) rfl rfl ?_ ?_
   ·obtain ⟨v1,l1,l2,l3,l4⟩:=aF.lendSp f7 (zL (zL g z) e) zt1
    obtain ⟨v2,l5,l6,l7,l8⟩:=aF.lendSp l3 (zL (zL (zL g z) e) l1) .head
    obtain ⟨v3,l9,hm⟩:=aB hm
    refine aCO call120 (aHC l9 l7 (l2.mono l5) l6) ?_
    rintro _ v4 ⟨v5,v6,v7,v8,rfl,m0⟩
    have m1:=l8 _ _ m0
    have m2:=l4 _ _ m1
    refine bN (aD ⟨fun _=>⟨_,m2⟩,?_⟩)
    refine lA (i:=15) (by kernel_rfl) rfl (aGf fun v9 w0 f8=>?_);refine bN (aD ⟨fun _=>⟨_,f8⟩,?_⟩)
    refine lA (i:=16) (by kernel_rfl) rfl ?_
    have m3:=d5 _ _ f8
    have w1:=d4 _ _ m3
    refine aFe fun w2 w3=>?_;refine bN (aD ⟨no_c rfl,?_⟩)
    exact aHb (by kernel_rfl) aL
   ·refine aGf fun w4 w5 f9=>?_;refine bN (aD ⟨fun _=>⟨_,f9⟩,?_⟩)
    refine lA (i:=14) (by kernel_rfl) rfl ?_;obtain ⟨w6,m4,m5,m6,m7⟩:=aF.lendSp f9 (zL (zL g z) e) zt2
    obtain ⟨w7,m8,m9,n0,n1⟩:=aF.lendSp m6 (zL (zL (zL g z) e) m4) zt1
    obtain ⟨w8,n2,hm⟩:=aB hm
    refine aCO call120 (aHC n2 n0 (m5.mono m8) m9) ?_
    rintro _ w9 ⟨x0,x1,x2,x3,rfl,n3⟩
    have n4:=n1 _ _ n3
    have g0:=m7 _ _ n4
    refine bN (aD ⟨fun _=>⟨_,g0⟩,?_⟩)
    refine lA (i:=16) (by kernel_rfl) rfl ?_
    have n5:=d5 _ _ g0
    have x4:=d4 _ _ n5
    refine aFe fun x5 x6=>?_;refine bN (aD ⟨no_c rfl,?_⟩)
    exact aHb (by kernel_rfl) aL
  ·refine aGf fun x7 x8 g1=>?_;refine bN (aD ⟨fun _=>⟨_,g1⟩,?_⟩)
   refine lA (i:=9) (by kernel_rfl) rfl ?_;obtain ⟨x9,y0,n6,n7,n8⟩:=aF.lendSp g1 (zL (zL g z) e) zt1
   obtain ⟨y1,n9,hm⟩:=aB hm
   refine aCO call121 (aCV n9 n7 n6) ?_
   rintro _ y2 ⟨y3,y4,rfl,o0⟩
   have g2:=n8 _ _ o0
   refine bN (aD ⟨fun _=>⟨_,g2⟩,?_⟩)
   refine lA (i:=14) (by kernel_rfl) rfl ?_;obtain ⟨y5,o1,o2,o3,o4⟩:=aF.lendSp g2 (zL (zL g z) e) zt1
   obtain ⟨y6,o5,o6,o7,o8⟩:=aF.lendSp o3 (zL (zL (zL g z) e) o1) .head
   obtain ⟨y7,o9,hm⟩:=aB hm
   refine aCO call120 (aHC o9 o7 (o2.mono o5) o6) ?_
   rintro _ y8 ⟨y9,z0,z1,z2,rfl,p0⟩
   have p1:=o8 _ _ p0
   have g3:=o4 _ _ p1
   refine bN (aD ⟨fun _=>⟨_,g3⟩,?_⟩)
   refine lA (i:=16) (by kernel_rfl) rfl ?_
   have p2:=d5 _ _ g3
   have z3:=d4 _ _ p2
   refine aFe fun z4 z5=>?_;refine bN (aD ⟨no_c rfl,?_⟩)
   exact aHb (by kernel_rfl) aL
 have z6:=aF.nil (α:=lS) i3 193 K
 obtain ⟨z7,p3,ho⟩:=aB hm
 refine aIA [2,6,9] p3 (fun o c3 p d6 f w=>∃ c4 q r u x b1,Hp.le K c4/\f 10=zP (some ⟨b1,0,none⟩)/\aF G c4 (aP 193 K u x p::box b1 3 [i64 d6]::aP 56 c4 q r o::gV a c3::box b 190 [zS q o.length r,zM (some a),zS u p.length x,Value.func (.func 27) #[] #[]]::box d 187 [zP (some ⟨b,0,none⟩)]::box m 51 l::L) w) aL ?_
 ·rintro o c3 p d6 p4 f z8 hm hr ⟨c4,q,r,u,x,b1,a3,p5,z9⟩
  unfold cO at hm
  refine tD ?_;refine aRj ?_
  refine tD ?_;refine pU (fun p6 p7=>(tD ?_))
  rcases aM hm with ⟨p8,hm⟩|⟨p8,hm⟩
  ·refine tD ?_;refine bT (tD ?_)
   obtain ⟨a5,y,p9,d7,_⟩:=aF.lendBp p7 zt1
   replace d7:aF G a5 (aP 193 K u x p::aP 56 c4 q r o::gV a c3::box b 190 [zS q o.length r,zM (some a),zS u p.length x,Value.func (.func 27) #[] #[]]::box d 187 [zP (some ⟨b,0,none⟩)]::box m 51 l::L) p6:=d7
   refine aNB (C:=fun w'=>∃ L',aF G a5 L' w') [] Tryz_mixed (by kernel_rfl) (fun g4 q0=>?_)
   have J:=aF.mono d7 q0
   refine aJK 0 ?_;refine aJK 5 ?_
   refine tM (i:=8) rfl (by kernel_rfl) ⟨_,J⟩ (fun _ _=>rD (vs:=[zP (some ⟨d,0,none⟩),dS (some ⟨b1,0,none⟩) 0]) (lst2 rfl (elp_b p5))) (lA (i:=1) (by kernel_rfl) rfl ?_)
   iterate 1 refine aBL ?_
   refine bN (aD ⟨fun _=>⟨_,J⟩,?_⟩)
   refine aJK 2 ?_;refine aJK 3 ?_
   refine lA (i:=4) (by kernel_rfl) rfl ?_
   iterate 1 refine aBL ?_
   refine bN (aD ⟨fun _=>⟨_,J⟩,?_⟩)
   obtain ⟨d8,d9,hm⟩:=aB hm
   have q1:=cR J (i:=1) rfl d9
   refine tM (i:=6) rfl (by kernel_rfl) ⟨_,J⟩ (fun _ _=>dH qV rfl q1 rfl rfl rfl d9) (lA (i:=7) (by kernel_rfl) rfl ?_);obtain ⟨a00,q2,q3⟩:=yH (sz:=1) rfl J (i:=1) rfl d9
   obtain ⟨e0,e1,rfl,q4⟩:=q3
   refine aC (aHR (t:=0) (v:=zS e0 d8.length e1) aHT q2 rfl rfl) (bN (aD ⟨fun _=>⟨_,J⟩,?_⟩))
   refine lA (i:=9) (by kernel_rfl) rfl ?_
   have a01:aF G a5 (aP 193 K u x p::aP 56 a5 q r o::gV a c3::box b 190 [zS q o.length r,zM (some a),zS u p.length x,Value.func (.func 27) #[] #[]]::box d 187 [zP (some ⟨b,0,none⟩)]::box m 51 l::L) g4:=aF.weak (i:=1) J rfl (fun _ h=>aP.mono y h)
   have q5:aF G a5 (aP 56 a5 q r o::gV a c3::aP 193 K u x p::box b 190 [zS q o.length r,zM (some a),zS u p.length x,Value.func (.func 27) #[] #[]]::box d 187 [zP (some ⟨b,0,none⟩)]::box m 51 l::L) g4:=aDq
   obtain ⟨b2,q6,hm⟩:=aB hm
   refine pT (vs:=[zS e0 d8.length e1,Value.func (.func 119) #[] #[zP (some ⟨d,0,none⟩),dS (some ⟨b1,0,none⟩) 0]]) (caps:=[dS a4 k5]) (us:=[zS e0 d8.length e1,Value.func (.func 119) #[] #[zP (some ⟨d,0,none⟩),dS (some ⟨b1,0,none⟩) 0],dS a4 k5]) rfl call82 rfl rfl (xK (Kf:=a5) q6 q5 hG (zR _) (q4.mono y) p9 (h6.mono (zL a3 y)) (h9.mono (zL a3 y)) (g9.mono (zL a3 y)) (h0.mono (zL a3 y)) (h1.mono (zL a3 y)) (h2.mono (zL a3 y))) ?_
   rintro _ a02 ⟨e2,e3,e4,e5,e6,rfl,g5,q7⟩
   refine bN (aD ⟨fun _=>⟨_,(aF.weakK q7 g5)⟩,?_⟩)
   refine aJK 10 ?_;refine aHb (by kernel_rfl) ?_
   iterate 2 refine aBL ?_
   refine bQ [2,6,9,10] (fun f w=>∃ e7,hQ d6 b2 e7=some p4/\f 48=zB e7/\aF G e2 (aP 56 e2 e3 e4 b2.2.1::gV a b2.2.2.1::aP 193 K e5 e6 b2.2.2.2::box b 190 [zS e3 b2.2.1.length e4,zM (some a),zS e5 b2.2.2.2.length e6,Value.func (.func 27) #[] #[]]::box d 187 [zP (some ⟨b,0,none⟩)]::box m 51 l::L) w) ?_ ?_
   ·rintro f a03 ⟨e7,hm,a04,a05⟩
    unfold hQ at hm
    refine tD ?_
    rcases aM hm with ⟨q8,hm⟩|⟨q8,hm⟩
    ·exact aL
    ·refine tD ?_;refine aGf fun q9 a06 a07=>?_
     refine aFe fun a08 a09=>?_;refine tD ?_
     refine aFe fun a11 a12=>?_;refine tD ?_
     exact ⟨_,(zI hm).symm,bZ,e2,e3,e4,e5,e6,q9,(zL (zL a3 y) g5),rfl,aDq⟩
   exact aL
  ·exact aL
theorem aIr {s_:bE} {R:(iZ × (List (List GPoint)) × Bool)} (hm:kX s_=some R) (hs:aF G K (L) w) (hG:G.lo=0) (h:bK K a1 c2 s_.Definitions) (j:bK K a4 c5 s_.Components) (k:bK K a7 c8 s_.Meetings) (l:bK K a10 c11 s_.Allowed) (m:bK K a13 c14 s_.Hidden):
  Calls prog 53 ([zA #[zS a1 s_.Definitions.length c2,zS a4 s_.Components.length c5,zS a7 s_.Meetings.length c8,zS a10 s_.Allowed.length c11,zS a13 s_.Hidden.length c14]]:List Value).toArray w (dD fun v w'=>∃ d n o p q r t,v=zT #[zA (zCa R.1 n o p q),zS r R.2.1.length t,zB R.2.2]/\Hp.le K d/\aF G d (aP 9 K n o R.1.L::aP 92 K p q R.1.E::aP 56 d r t R.2.1::L) w'):=by
 refine aBe func53 ?_;unfold kX at hm
 refine tD ?_;refine aGh fun u c0 c1=>?_
 refine aGf fun x c3 a2=>?_;refine tD ?_
 obtain ⟨c4,a3,hm⟩:=aB hm
 refine aCO call81 (aDl a3 a2 h j k l m) ?_
 rintro _ y ⟨c6,c7,c9,rfl,a5,a6⟩
 refine aC (rD (vs:=[zP (some ⟨u,0,none⟩)]) rfl) ?_;obtain ⟨a8,b,a9,_,e,_⟩:=aF.lendD' (i:=0) a6 a5 rfl rfl
 replace e:aF G a8 (box x 51 zG::box u 36 [zS a1 s_.Definitions.length c2,zS a4 s_.Components.length c5,zS a7 s_.Meetings.length c8,zS a10 s_.Allowed.length c11,zS a13 s_.Hidden.length c14]::L) y:=e
 obtain ⟨b0,a,b1,g,_⟩:=aF.lendBp e zt1
 replace g:aF G b0 (box x 51 zG::L) y:=g
 obtain ⟨c,b2,hm⟩:=aB hm
 refine aCO call80 (rA b2 g hG (a9.mono a) b1 (h.mono (zL b a)) (j.mono (zL b a)) (k.mono (zL b a)) (l.mono (zL b a)) (m.mono (zL b a))) ?_
 rintro _ d0 ⟨b3,z,J,V,c45,b4,b5,rfl,b6,d1⟩
 refine tD ?_;refine aFe fun d2 b7=>?_
 refine tD ?_;obtain rfl:=zI hm
 exact aCe (aSL results53 (aPG (vs:=(zC c.1 z J V c45)) rfl ag_51 b7 (i:=3) rfl rfl rfl) (aPF rfl rfl) (aPF rfl rfl) ⟨b3,z,J,V,c45,b4,b5,rfl,(zL (zL b a) b6),aDq⟩)
theorem aCF {s_:bE} {R:(iZ × (List (List GPoint)) × Int)} (hm:aCT s_=some R) (i:aF G K (L) w) (j:G.lo=0) (k:bK K a1 c2 s_.Definitions) (l:bK K a4 c5 s_.Components) (m:bK K a7 c8 s_.Meetings) (n:bK K a10 c11 s_.Allowed) (o:bK K a13 c14 s_.Hidden):
  Calls prog 26 ([zA #[zS a1 s_.Definitions.length c2,zS a4 s_.Components.length c5,zS a7 s_.Meetings.length c8,zS a10 s_.Allowed.length c11,zS a13 s_.Hidden.length c14]]:List Value).toArray w (dD fun v w'=>∃ a b c d e g h,v=zT #[zA (zCa R.1 b c d e),zS g R.2.1.length h,i64 R.2.2]/\Hp.le K a/\aF G a (aP 9 K b c R.1.L::aP 92 K d e R.1.E::aP 56 a g h R.2.1::L) w'):=by
 exact aL
theorem aGH {a R:(List GPoint)} (hm:aCw a=some R) (h:aF G K (L) w) (i:bK K a1 c2 a):
  Calls prog 28 ([zS a1 a.length c2]:List Value).toArray w (dD fun v w'=>∃ e g b,v=zS e R.length g/\List.length b=List.length R/\aF G K (aP 97 K e g (aV b R)::rows [2] b R::L) w'):=by
 refine aBe func28 ?_;unfold aCw at hm
 refine tD ?_;obtain ⟨x,j,hm⟩:=aB hm
 refine aCO call56 (aAZ j h i) ?_
 rintro _ y ⟨c,d,z,rfl,k,l⟩
 refine tD ?_;obtain ⟨m,o,hm⟩:=aB hm
 refine aCO call57 (lib_SortPts l k o) ?_
 rintro _ J ⟨p,rfl,q,r,t⟩
 iterate 4 refine aBL ?_
 refine aZ (v:=zS c m.length d) (Eq.trans rfl (congrArg (fun n=>zS c n d) q)) (tD ?_);obtain rfl:=zI hm
 exact st_E results28 ⟨c,d,p,rfl,r,t⟩
theorem aRs {m R:(List Int)} (hm:aJi m=some R) (hs:aF G K (L) w) (h3:bK K a1 c2 m):
  Calls prog 29 ([zS a1 m.length c2]:List Value).toArray w (dD fun v w'=>∃ u x,v=zS u R.length x/\aF G K (aP 2 K u x R::L) w'):=by
 refine aBe func29 ?_;unfold aJi at hm
 refine tD ?_;refine aID Int Int hs ?_
 intro c w5 (a5:aF G K (gV c ([]:(List (Int × Int)))::L) w5)
 refine tD ?_;obtain ⟨a,q8,hm⟩:=aB hm
 refine aLZ (e:=(0:Int)) fZ aIG rfl rfl a5 rfl rfl rfl q8 rfl ?_
 intro b a7 (c4:aF G K (aP 2 K b a.length a::gV c ([]:(List (Int × Int)))::L) a7)
 refine tD ?_;refine aQ [] (fun f w=>∃ o,aOD o=some R/\f 4=zS b o.length a.length/\aF G K (aP 2 K b a.length o::L) w) aL ?_
 obtain ⟨c5,a8,ho⟩:=aB hm
 refine iE [3,13,14] a8 (fun g d p f w=>f 4=zS b d.length a.length/\f 15=i64 p/\aF G K (aP 2 K b a.length d::gV c g::L) w) aL ?_
 ·rintro g d p b0 f c6 hm hr ⟨b1,c7,q⟩
  unfold qX at hm
  refine tD ?_
  rcases aM hm with ⟨b2,hm⟩|⟨b2,hm⟩
  ·refine tD ?_;refine bT (tD ?_)
   obtain ⟨y,b3,hm⟩:=aB hm
   refine tD ?_;obtain ⟨c8,c9,b4⟩:=bK.el (sz:=1) rfl h3 b3
   cases b4
   refine tD ?_;refine aC (R_look (kv:=g) (k:=y) (z:=(0:Int)) runUnderlying113 ko_2 zeroValue2 q (i:=1) rfl rfl rfl) ?_
   iterate 7 refine aBL ?_
   refine rB [3,4,5,13,14,15] (fun f w=>∃ l j,aCx d p l j=some b0/\f 7=i64 j/\aF G K (aP 2 K b a.length d::gV c l::L) w) ?_ ?_
   ·rintro f d0 ⟨l,j,hm,d1,J⟩
    unfold aCx at hm
    refine tD ?_;obtain ⟨d2,r,hm⟩:=aB hm
    have b5:=cR J (i:=0) rfl r
    refine aC (dH fZ rfl b5 rfl rfl rfl r) ?_;obtain ⟨b6,V,hm⟩:=aB hm
    refine lW (i:=0) (t:=0) (ns:=[i64 j]) (e':=(j:Int)) sizeOf2 J rfl (zR _) rfl rfl rfl r V rfl rfl (fW rfl) rfl (fun cs h=>by cases h;rfl) (fun b7 (b8:aF G K (aP 2 K b a.length b6::gV c l::L) b7)=>(tD ?_));exact ⟨_,(zI hm).symm,bZ,(Eq.trans b1 (congrArg (fun n=>zS b n a.length) (bS V))),rfl,b8⟩
   refine tD ?_
   rcases aM hm with ⟨b9,hm⟩|⟨b9,hm⟩
   ·refine tD ?_;refine aC (R_lenM runUnderlying113 q (i:=1) rfl rfl) (tD ?_)
    obtain ⟨a0,c0,hm⟩:=aB hm
    refine aIE (i:=1) (k:=y) (v:=(g.length:Int)) runUnderlying113 ko_2 q rfl rfl rfl rfl c0 (fun c1 (c3:aF G K (aP 2 K b a.length d::gV c a0::L) c1)=>(tD ?_));exact ⟨bZ,a0,(g.length:Int),hm,rfl,c3⟩
   ·exact aL
  ·exact aL
theorem pJ {s_:bE} {R:((List Int) × Int)} (hm:kB s_=some R) (hs:aF G K (L) w) (x:G.lo=0) (h3:bK K a1 c2 s_.Definitions) (h6:bK K a4 c5 s_.Components) (h9:bK K a7 c8 s_.Meetings) (b4:bK K a10 c11 s_.Allowed) (b5:bK K a13 c14 s_.Hidden):
  Calls prog 7 ([zA #[zS a1 s_.Definitions.length c2,zS a4 s_.Components.length c5,zS a7 s_.Meetings.length c8,zS a10 s_.Allowed.length c11,zS a13 s_.Hidden.length c14]]:List Value).toArray w (dD fun v w'=>∃ y J,v=zT #[zS y R.1.length J,i64 R.2]/\aF G K (aP 2 K y J R.1::L) w'):=by
 refine aBe func7 ?_;unfold kB at hm
 refine tD ?_;refine aGh fun b6 f6 b7=>?_
 refine tD ?_;obtain ⟨a,b8,hm⟩:=aB hm
 refine aCO call26 (aCF b8 b7 x h3 h6 h9 b4 b5) ?_
 rintro _ f7 ⟨b,V,a0,a2,a3,j,l,rfl,f8,f9⟩
 refine tD ?_;refine aGf fun b9 g0 g1=>?_
 refine aFe fun g2 c0=>?_;refine tD ?_
 rcases aM hm with ⟨c1,hm⟩|⟨c1,hm⟩
 ·exact aL
 ·refine tD ?_;refine aID aO Int c0 ?_
  intro m c3 (c4:aF G b (gV m ([]:(List (aO × Int)))::box b9 51 (zC a.1 V a0 a2 a3)::aP 9 K V a0 a.1.L::aP 92 K a2 a3 a.1.E::aP 56 b j l a.2.1::box b6 36 [zS a1 s_.Definitions.length c2,zS a4 s_.Components.length c5,zS a7 s_.Meetings.length c8,zS a10 s_.Allowed.length c11,zS a13 s_.Hidden.length c14]::L) c3)
  refine tD ?_;refine aQ [] (fun f w=>∃ o a5 a6,rT o=some R/\f 8=zS a5 o.length a6/\aF G b (aP 2 K a5 a6 o::L) w) aL ?_
  have g3:=aF.nil (α:=Int) c4 2 K
  obtain ⟨g4,c6,ho⟩:=aB hm
  refine iE [7,24,25] c6 (fun n c p f w=>∃ d e,f 8=zS d c.length e/\f 26=i64 p/\aF G b (aP 2 K d e c::gV m n::aP 56 b j l a.2.1::L) w) aL ?_
  ·rintro n c p c7 f g5 hm hr ⟨d,e,g6,c9,q⟩
   unfold fG at hm
   refine tD ?_
   rcases aM hm with ⟨d0,hm⟩|⟨d0,hm⟩
   ·refine tD ?_;refine bT (tD ?_)
    obtain ⟨d1,r,hm⟩:=aB hm
    have d2:=cR q (i:=2) rfl r
    refine aC (dH qV rfl d2 rfl rfl c9 r) ?_;obtain ⟨g7,d3,d4⟩:=yH (sz:=1) rfl q (i:=2) rfl r
    obtain ⟨d5,d6,rfl,d7⟩:=d4
    refine aC (aHR (t:=0) (v:=zS d5 d1.length d6) aHT d3 rfl rfl) (tD ?_);obtain ⟨a8,d8,hm⟩:=aB hm
    refine aCO call28 (aGH d8 q d7) ?_
    rintro _ g8 ⟨d9,e0,a9,rfl,e1,e2⟩
    obtain ⟨g9,h0,e3,h1,e4,e5⟩:=aF.lendD' (i:=0) e2 e1 rfl rfl
    obtain ⟨g,e6,hm⟩:=aB hm
    refine aCO call27 (yF e6 e4 x e3) ?_
    rintro _ h2 ⟨rfl,e7⟩
    have u:=e5 _ _ e7
    iterate 3 refine aBL ?_
    refine rB [7,8,11,24,25,26] (fun f w=>∃ h,jZ c p g h=some c7/\aF G b (aP 2 K d e c::gV m h::aP 56 b j l a.2.1::L) w) ?_ ?_
    ·rintro f h4 ⟨h,hm,e8⟩
     unfold jZ at hm
     refine tD ?_;refine aC (aSP (kv:=h) (k:=g) (z:=(0:Int)) runUnderlying65 ko_9 zeroValue2 e8 (i:=1) rfl rfl rfl) (aIs ([((iQ h g).getD 0)]:List Int) fun h5 h7 h8=>?_)
     obtain ⟨i0,i1,hm⟩:=aB hm
     refine st_p fun e9 f0 i2 f1=>?_;refine tD ?_
     exact ⟨_,(zI hm).symm,bZ,e9,f0,rfl,rfl,f1⟩
    refine tD ?_;refine aC (R_look (kv:=n) (k:=g) (z:=(0:Int)) runUnderlying65 ko_9 zeroValue2 u (i:=3) rfl rfl rfl) (tD ?_)
    rcases aM hm with ⟨f2,hm⟩|⟨f2,hm⟩
    ·refine tD ?_;refine aC (R_lenM runUnderlying65 u (i:=3) rfl rfl) ?_
     obtain ⟨b0,f3,hm⟩:=aB hm
     refine aIE (i:=3) (k:=g) (v:=(n.length:Int)) runUnderlying65 ko_9 u rfl rfl rfl rfl f3 (fun f4 (i3:aF G b (aP 97 K d9 e0 (aV a9 a8)::rows [2] a9 a8::aP 2 K d e c::gV m b0::aP 56 b j l a.2.1::L) f4)=>(tD ?_));exact ⟨bZ,b0,hm,aDq⟩
    ·exact aL
   ·exact aL
theorem aCW {a b:(List Int)} {R:Bool} (hm:uN a b=some R) (g:aF G K (L) w) (h:bK K a1 c2 a) (i:bK K a4 c5 b):
  Calls prog 8 ([zS a1 a.length c2,zS a4 b.length c5]:List Value).toArray w (dD fun v w'=>v=zB R/\aF G K (L) w'):=by
 refine aBe func8 ?_;unfold uN at hm
 refine tD ?_
 rcases aM hm with ⟨c,hm⟩|⟨c,hm⟩
 ·exact aL
 ·refine tD ?_;refine aQ [] (fun f w=>aKS=some R/\aF G K (L) w) aL ?_
  obtain ⟨j,d,ho⟩:=aB hm
  exact cE [0,1] d (fun e f w=>f 5=i64 e/\aF G K (L) w) aL aL
theorem aRt {a b:aW} {R:Bool} (hm:aMJ a b=some R) (c:aF G K (L) w):
  Calls prog 284 ([zA #[i64 a.Kind,i64 a.Value],zA #[i64 b.Kind,i64 b.Value]]:List Value).toArray w (dD fun v w'=>v=zB R/\aF G K (L) w'):=by
 exact aL
end Gv
