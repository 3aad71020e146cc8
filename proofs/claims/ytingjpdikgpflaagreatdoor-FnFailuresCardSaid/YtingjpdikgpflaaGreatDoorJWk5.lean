/- Walks, printed by program. -/
import Derived.Test.YtingjpdikgpflaaGreatDoorJWk3
set_option linter.all false
namespace Gv
open Go.Value renaming slice→zS,bool→zB,pointer→zP,agg→zA
open Option.some renaming inj→zI
open Gv.Hp renaming le_trans→zL,le_refl→zR
open Go Go.Proofs Go.Proofs.Tryz
set_option maxRecDepth 20000
set_option maxHeartbeats 40000000
variable {G:qN} {K:Hp} {L:List gH} {w:World} {b1 c3 c2 c5 c8:Nat} {a2 a1 a4 a7:Option Addr}
theorem aMg {a:(List UInt8)} {b c:Int} {R:(Int × Int × Int)} (hm:aKu a b c=some R) (e:aJ G K (aN 5 K a2 c3 a::box b1 73 [zS a2 a.length c3,i64 b,Value.int .u64 c]::L) w):
  Calls prog 36 ([zP (some ⟨b1,0,none⟩)]:List Value).toArray w (eH fun v w'=>v=i64 R.1/\aJ G K (aN 5 K a2 c3 a::box b1 73 [zS a2 a.length c3,i64 R.2.1,Value.int .u64 R.2.2]::L) w'):=by
 refine aS func36 rfl (by kernel_rfl) (by show (1:Nat)<=62;decide) ?_;unfold aKu at hm
 exact aK (aD (v:=i64 0) (aG (aK (aD (v:=i64 0) (aG (oO [0] (fun f w=>∃ d,aKw a b c d=some R/\f 3=i64 d/\aJ G K (aN 5 K a2 c3 a::box b1 73 [zS a2 a.length c3,i64 b,Value.int .u64 c]::L) w) aHU aHU))))))
theorem aPG {a:(List UInt8)} {b c n:Int} {R:(Int × (List UInt8) × Int × Int)} (hm:aPy a b c n=some R) (k:aJ G K (aN 5 K a2 c3 a::box b1 73 [zS a2 a.length c3,i64 b,Value.int .u64 c]::L) w):
  Calls prog 14 ([zP (some ⟨b1,0,none⟩),i64 n]:List Value).toArray w (eH fun v w'=>∃ d e,v=i64 R.1/\aJ G K (aN 5 K d e R.2.1::box b1 73 [zS d R.2.1.length e,i64 R.2.2.1,Value.int .u64 R.2.2.2]::L) w'):=by
 refine aS func14 rfl (by kernel_rfl) (by show (2:Nat)<=20;decide) ?_;unfold aPy at hm
 refine aK (aD (v:=i64 0) (aG (aO (aK (aF (v:=i64 n) (aC (aBL rfl rfl) (aG ?_)))))))
 rcases aH hm with ⟨g,hm⟩|⟨g,hm⟩
 ·exact aHU
 ·refine aI g rfl (aU (aA (aK (aF (v:=zP (some ⟨b1,0,none⟩)) ?_))));obtain ⟨l,m,hm⟩:=aB hm
  refine aR (vs:=[zP (some ⟨b1,0,none⟩)]) call36 rfl (aMg m k) ?_
  rintro _ o ⟨rfl,p⟩
  exact aD (v:=i64 l.1) (aG (oO [1] (fun f w=>∃ h i j,aKH a n h i j=some R/\f 5=i64 h/\aJ G K (aN 5 K a2 c3 a::box b1 73 [zS a2 a.length c3,i64 i,Value.int .u64 j]::L) w) aHU aHU))
theorem aAL {g:(List UInt8)} {a7 a8:Int} {R:(cI × Int × Int)} (hm:zX g a7 a8=some R) (hs:aJ G K (box b1 73 [zS a2 g.length c3,i64 a7,Value.int .u64 a8]::L) w) (z:cF K a2 c3 g):
  Calls prog 13 ([zP (some ⟨b1,0,none⟩)]:List Value).toArray w (eH fun v w'=>∃ b7 b8 b9 c0,v=zA (zCa R.1 b7 b8 b9 c0)/\aJ G K (aN 9 K b7 b8 R.1.L::aN 66 K b9 c0 R.1.E::box b1 73 [zS a2 g.length c3,i64 R.2.1,Value.int .u64 R.2.2]::L) w'):=by
 let k:=zG
 refine aS func13 rfl (by kernel_rfl) (by show (1:Nat)<=56;decide) ?_;unfold zX at hm
 refine aK (bZ (vs:=k) zeroValue27 hs rfl (fun l w6 e8=>(aG (aK (aF (v:=zP (some ⟨b1,0,none⟩)) ?_)))))
 have e9:aJ G K (box b1 73 [zS a2 g.length c3,i64 a7,Value.int .u64 a8]::box l 27 k::L) w6:=(aJ.arr 2 [1,0] e8 rfl)
 obtain ⟨a,f0,hm⟩:=aB hm
 refine aR (vs:=[zP (some ⟨b1,0,none⟩)]) call33 rfl (aFI f0 e9 z) ?_
 rintro _ h9 ⟨b,c,d,e,rfl,f1⟩
 refine bZ (vs:=k) zeroValue27 f1 rfl (fun n i0 f2=>(cA (i:=0) (ns:=(zC a.1 b c d e)) (us:=(zC a.1 b c d e)) sizeOf27 f2 rfl rfl rfl rfl rfl (cY rfl) rfl rfl (fun f3 (f4:aJ G K (box n 27 (zC a.1 b c d e)::aN 9 K b c a.1.L::aN 66 K d e a.1.E::box b1 73 [zS a2 g.length c3,i64 a.2.1,Value.int .u64 a.2.2]::box l 27 k::L) f3)=>(aG (aK (cB (Kt:=K) (xs:=([]:List Edge)) (cs:=[]) (vs:=[]) cL gC rfl rfl f4 rfl (by kernel_rfl) rfl rfl rfl trivial (fun c1 f5 (i1:aJ G K (aN 66 K c1 0 ([]:List Edge)::box n 27 (zC a.1 b c d e)::aN 9 K b c a.1.L::aN 66 K d e a.1.E::box b1 73 [zS a2 g.length c3,i64 a.2.1,Value.int .u64 a.2.2]::box l 27 k::L) f5)=>(aD (v:=zS c1 ([]:List Edge).length 0) (aG (aO (aK (aD (v:=i64 0) (aG (aW [0,2,3] (fun f w=>∃ V Z q a0 a1,rV g a V Z q=some R/\f 4=zS a0 q.length a1/\aJ G K (aN 66 K a0 a1 q::box n 27 (zC a.1 b c d e)::aN 9 K b c a.1.L::aN 66 K d e a.1.E::box b1 73 [zS a2 g.length c3,i64 V,Value.int .u64 Z]::box l 27 k::L) w) ?_ ?_))))))))))))))
 ·rintro f f6 ⟨V,Z,q,a0,a1,hm,i2,f7⟩
  unfold rV at hm
  refine aA (aO (aK (aF (v:=zP (some ⟨b1,0,none⟩)) ?_)))
  have f8:aJ G K (box b1 73 [zS a2 g.length c3,i64 V,Value.int .u64 Z]::aN 66 K a0 a1 q::box n 27 (zC a.1 b c d e)::aN 9 K b c a.1.L::aN 66 K d e a.1.E::box l 27 k::L) f6:=(aJ.arr 5 [4,0,1,2,3] f7 rfl)
  obtain ⟨f9,g0,hm⟩:=aB hm
  refine aR (vs:=[zP (some ⟨b1,0,none⟩),i64 3]) call14 rfl (cW g0 f8 z) ?_
  rintro _ i3 ⟨rfl,i4⟩
  refine aD (v:=i64 f9.1) (aG (aW [2,3] (fun f w=>∃ a9 c2 c4 c5 c6,rU a a9 c2 c4=some R/\f 4=zS c5 a9.length c6/\aJ G K (aN 66 K c5 c6 a9::box b1 73 [zS a2 g.length c3,i64 c2,Value.int .u64 c4]::box n 27 (zC a.1 b c d e)::aN 9 K b c a.1.L::aN 66 K d e a.1.E::box l 27 k::L) w) aHU ?_));obtain ⟨i5,g1,ho⟩:=aB hm
  refine uW [0,2,3] g1 (fun c7 c8 a3 c9 f w=>∃ a4 a5,f 4=zS a4 a3.length a5/\f 7=i64 c9/\aJ G K (box b1 73 [zS a2 g.length c3,i64 c7,Value.int .u64 c8]::aN 66 K a4 a5 a3::box n 27 (zC a.1 b c d e)::aN 9 K b c a.1.L::aN 66 K d e a.1.E::box l 27 k::L) w) aHU ?_
  ·rintro c7 c8 a3 c9 i6 f i7 hm hr ⟨a4,a5,g2,g3,g4⟩
   unfold aCo at hm
   refine aO (aK (aY g3 (aC (kC rfl rfl) (aG ?_))))
   rcases aH hm with ⟨d0,hm⟩|⟨d0,hm⟩
   ·refine aL d0 rfl (aU (aA (aO (cN ?_))));obtain ⟨b0,a6,d1,d2,g5⟩:=aJ.lendBp g4 zt2
    refine dT (C:=fun w'=>∃ L',aJ G b0 L' w') [(0,0),(1,0),(2,0),(3,0),(5,0),(6,0),(7,0),(4,1),(8,1),(9,0),(10,1),(11,1),(12,0)] bY (by kernel_rfl) (fun _ hg=>⟨_,aJ.mono d2 hg⟩) (fun i8 g6=>?_)
    have r:=aJ.mono d2 g6
    refine bQ rfl (fun _ _=>bA g2) (bQ rfl (fun _ _=>bA (v:=zP (some ⟨b1,0,none⟩)) rfl) (bQ rfl (fun _ _=>bT (t':=0) fW rfl rfl) (bQ rfl (fun _ ⟨_,r⟩=>bG (t:=0) cQ r d1 rfl rfl) (bQ rfl (fun _ _=>bA (v:=zP (some ⟨b1,0,none⟩)) rfl) (bQ rfl (fun _ _=>bT (t':=0) fW rfl rfl) (bQ rfl (fun _ ⟨_,r⟩=>bG (t:=0) cQ r d1 rfl rfl) (jE rfl ?_)))))));obtain ⟨o,g7,hm⟩:=aB hm
    refine aR (vs:=[zP (some ⟨b1,0,none⟩),i64 a.1.N]) call14 rfl (cW g7 r (z.mono a6)) ?_
    rintro _ i9 ⟨rfl,d3⟩
    refine bB (aA ⟨⟨_,d3⟩,?_⟩)
    refine jE rfl ?_;obtain ⟨m,g8,hm⟩:=aB hm
    refine aR (vs:=[zP (some ⟨b1,0,none⟩),i64 a.1.N]) call14 rfl (cW g8 d3 (z.mono a6)) ?_
    rintro _ j0 ⟨rfl,d4⟩
    refine bB (aA ⟨⟨_,d4⟩,?_⟩)
    refine bQ rfl (fun _ _=>dF (vs:=[(0,i64 o.1),(2,i64 m.1)]) (cs:=[i64 o.1,i64 0,i64 m.1]) aDl rfl (by kernel_rfl)) (jE rfl (cB (Kt:=K) (xs:=([⟨o.1,0,m.1⟩]:List Edge)) (cs:=[i64 o.1,i64 0,i64 m.1]) (vs:=[(0,zA #[i64 o.1,i64 0,i64 m.1])]) cL gC rfl rfl d4 rfl (by kernel_rfl) rfl rfl rfl ⟨rfl,trivial⟩ (fun g9 h0 (d5:aJ G b0 (aN 66 K g9 1 ([⟨o.1,0,m.1⟩]:List Edge)::box b1 73 [zS a2 g.length c3,i64 m.2.1,Value.int .u64 m.2.2]::aN 66 K a4 a5 a3::aN 9 K b c a.1.L::aN 66 K d e a.1.E::box l 27 k::L) h0)=>(bB (aA ⟨⟨_,d5⟩,?_⟩)))))
    refine jE rfl ?_;obtain ⟨d6,h1,hm⟩:=aB hm
    refine dG (i:=1) cL underlying25 gC rfl rfl d5 rfl a6 a6 h1 rfl rfl rfl rfl (fun _ h=>h) (fun d7 d8 h2 (d9:aJ G b0 (box b1 73 [zS a2 g.length c3,i64 m.2.1,Value.int .u64 m.2.2]::aN 66 K d7 d8 d6::aN 9 K b c a.1.L::aN 66 K d e a.1.E::box l 27 k::L) h2)=>(bB (aA ⟨⟨_,d9⟩,?_⟩)))
    refine bQ rfl (fun _ _=>cZ (v:=zS d7 d6.length d8) rfl) (iO ?_)
    have j1:=g5 _ _ d9
    exact aHU
   ·exact aHU
 obtain ⟨j2,h3,ho⟩:=aB hm
 refine uW [0,2,3] h3 (fun b2 b3 p b4 f w=>∃ u x,f 4=zS u p.length x/\f 5=i64 b4/\aJ G K (aN 66 K u x p::box n 27 (zC a.1 b c d e)::aN 9 K b c a.1.L::aN 66 K d e a.1.E::box b1 73 [zS a2 g.length c3,i64 b2,Value.int .u64 b3]::box l 27 k::L) w) aHU ?_
 ·rintro b2 b3 p b4 h5 f j3 hm hr ⟨u,x,j4,e0,y⟩
  unfold aCp at hm
  refine aO (aK (aY e0 (aC (bT (t':=3) cU rfl rfl) (aC (dC eS y (i:=1) rfl rfl rfl) (aC (bO (len:=a.1.E.length) cL rfl) (aC (cG rfl rfl) (aG ?_)))))))
  rcases aH hm with ⟨e1,hm⟩|⟨e1,hm⟩
  ·refine aL e1 rfl (aU (aA (aO (cN (aK (aC (bT (t':=3) cU rfl rfl) (aC (dC eS y (i:=1) rfl rfl rfl) (aY e0 ?_))))))));obtain ⟨j,b6,hm⟩:=aB hm
   have h6:=cX y (i:=3) rfl b6
   exact aC (dD cL rfl h6 rfl rfl rfl b6) (aC (aAh (t:=0) (vs:=[i64 j.F,i64 j.B,i64 j.To]) kD y (i:=3) rfl b6 rfl rfl rfl rfl) (bZ (vs:=[i64 0,i64 0,i64 0]) zeroValue66 y rfl (fun e2 j5 h7=>(cA (i:=0) (ns:=[i64 j.F,i64 j.B,i64 j.To]) (us:=[i64 j.F,i64 j.B,i64 j.To]) sizeOf66 h7 rfl rfl rfl rfl rfl (cY rfl) rfl rfl (fun h8 (j6:aJ G K (box e2 66 [i64 j.F,i64 j.B,i64 j.To]::aN 66 K u x p::box n 27 (zC a.1 b c d e)::aN 9 K b c a.1.L::aN 66 K d e a.1.E::box b1 73 [zS a2 g.length c3,i64 b2,Value.int .u64 b3]::box l 27 k::L) h8)=>(aG (oO [0,2,3,4,5,6] (fun f w=>∃ e3 e4 e5,rW p b4 j e3 e4 e5=some h5/\aJ G K (box e2 66 [i64 j.F,i64 e5,i64 j.To]::aN 66 K u x p::box n 27 (zC a.1 b c d e)::aN 9 K b c a.1.L::aN 66 K d e a.1.E::box b1 73 [zS a2 g.length c3,i64 e3,Value.int .u64 e4]::box l 27 k::L) w) aHU aHU)))))))
  ·exact aHU
theorem aHj {m:(List UInt8)} {R:(cI × cI)} (hm:aFz m=some R) (hs:aJ G K (L) w) (h3:cF K a1 c2 m):
  Calls prog 5 ([zS a1 m.length c2]:List Value).toArray w (eH fun v w'=>∃ c4 c5 c6 c7 c8 c9 d0 d1,v=Value.tuple #[zA (zCa R.1 c4 c5 c6 c7),zA (zCa R.2 c8 c9 d0 d1)]/\aJ G K (aN 9 K c4 c5 R.1.L::aN 66 K c6 c7 R.1.E::aN 9 K c8 c9 R.2.L::aN 66 K d0 d1 R.2.E::L) w'):=by
 let d:=zG
 refine aS func5 rfl (by kernel_rfl) (by show (1:Nat)<=65;decide) ?_;unfold aFz at hm
 refine aK (bZ (vs:=d) zeroValue27 hs rfl (fun u w5 f3=>(bZ (vs:=d) zeroValue27 f3 rfl (fun x w8 f4=>(aG (aK (aF (v:=zS a1 m.length c2) ?_)))))));obtain ⟨s1,f5,hm⟩:=aB hm
 refine aR (vs:=[zS a1 m.length c2]) call12 rfl (aHb f5 f4 h3) ?_
 rintro _ s2 ⟨k,rfl,f6⟩
 refine aD (v:=zP (some ⟨k,0,none⟩)) (aG (aK (aF (v:=zP (some ⟨k,0,none⟩)) ?_)));obtain ⟨a,f7,hm⟩:=aB hm
 refine aR (vs:=[zP (some ⟨k,0,none⟩)]) call13 rfl (aAL f7 f6 h3) ?_
 rintro _ s3 ⟨e,g,h,j,rfl,f8⟩
 refine bZ (vs:=d) zeroValue27 f8 rfl (fun l s4 f9=>(cA (i:=0) (ns:=(zC a.1 e g h j)) (us:=(zC a.1 e g h j)) sizeOf27 f9 rfl rfl rfl rfl rfl (cY rfl) rfl rfl (fun d2 (g0:aJ G K (box l 27 (zC a.1 e g h j)::aN 9 K e g a.1.L::aN 66 K h j a.1.E::box k 73 [zS a1 m.length c2,i64 a.2.1,Value.int .u64 a.2.2]::box x 27 d::box u 27 d::L) d2)=>(aG (aK (aF (v:=zP (some ⟨k,0,none⟩)) ?_))))))
 have g1:aJ G K (box k 73 [zS a1 m.length c2,i64 a.2.1,Value.int .u64 a.2.2]::box l 27 (zC a.1 e g h j)::aN 9 K e g a.1.L::aN 66 K h j a.1.E::box x 27 d::box u 27 d::L) d2:=(aJ.arr 4 [3,0,1,2] g0 rfl)
 obtain ⟨b,g2,hm⟩:=aB hm
 refine aR (vs:=[zP (some ⟨k,0,none⟩)]) call13 rfl (aAL g2 g1 h3) ?_
 rintro _ s5 ⟨o,p,q,r,rfl,g3⟩
 refine bZ (vs:=d) zeroValue27 g3 rfl (fun a5 s6 g4=>(cA (i:=0) (ns:=(zC b.1 o p q r)) (us:=(zC b.1 o p q r)) sizeOf27 g4 rfl rfl rfl rfl rfl (cY rfl) rfl rfl (fun d3 (g5:aJ G K (box a5 27 (zC b.1 o p q r)::aN 9 K o p b.1.L::aN 66 K q r b.1.E::box k 73 [zS a1 m.length c2,i64 b.2.1,Value.int .u64 b.2.2]::box l 27 (zC a.1 e g h j)::aN 9 K e g a.1.L::aN 66 K h j a.1.E::box x 27 d::box u 27 d::L) d3)=>(aG (aO (aK (aF (v:=zP (some ⟨k,0,none⟩)) ?_)))))))
 have g6:aJ G K (box k 73 [zS a1 m.length c2,i64 b.2.1,Value.int .u64 b.2.2]::box a5 27 (zC b.1 o p q r)::aN 9 K o p b.1.L::aN 66 K q r b.1.E::box l 27 (zC a.1 e g h j)::aN 9 K e g a.1.L::aN 66 K h j a.1.E::box x 27 d::box u 27 d::L) d3:=(aJ.arr 4 [3,0,1,2] g5 rfl)
 obtain ⟨n,g7,hm⟩:=aB hm
 refine aR (vs:=[zP (some ⟨k,0,none⟩),i64 7]) call14 rfl (cW g7 g6 h3) ?_
 rintro _ s7 ⟨rfl,a2⟩
 refine aG (aW [2,3,5,6] (fun f w=>∃ a8 a9 a6 a7 b0 b1 b2 b3,iE a a8 a9 a6 a7=some R/\aJ G K (aN 66 K b2 b3 a7::aN 9 K b0 b1 a6::box a5 27 [i64 a8,i64 a9,zS b0 a6.length b1,zS b2 a7.length b3]::box l 27 (zC a.1 e g h j)::aN 9 K e g a.1.L::aN 66 K h j a.1.E::box x 27 d::box u 27 d::L) w) ?_ ?_)
 ·rintro f s8 ⟨a8,a9,a6,a7,b0,b1,b2,b3,hm,g8⟩
  unfold iE at hm
  refine aA (aO ?_);obtain ⟨s9,t0,g9,h0,t1⟩:=aJ.lendBp g8 zt2
  obtain ⟨h1,h2,h4,d4,t2⟩:=aJ.lendBp h0 zt2
  refine dT (C:=fun w'=>∃ L',aJ G h1 L' w') [(0,0),(1,0),(2,1),(3,2)] bY (by kernel_rfl) (fun _ hg=>⟨_,aJ.mono d4 hg⟩) (fun t3 h5=>?_)
  have b5:=aJ.mono d4 h5
  exact bQ rfl (fun _ ⟨_,b5⟩=>eI (t:=0) (vs:=(zC a.1 e g h j)) cV b5 h4 rfl rfl rfl) (bQ rfl (fun _ ⟨_,b5⟩=>eI (t:=0) (vs:=[i64 a8,i64 a9,zS b0 a6.length b1,zS b2 a7.length b3]) cV b5 (g9.mono h2) rfl rfl rfl) (jE rfl aHU))
 refine aK (aC (fA rfl rfl) (aD (v:=zB (n.1 == 0)) (aG ?_)))
 rcases aH hm with ⟨b6,hm⟩|⟨b6,hm⟩
 ·refine aL b6 rfl (aP ?_);obtain ⟨t4,h6,h7,h8,h9⟩:=aJ.lendSp a2 (zR _) zt5
  obtain ⟨t5,i0,i1,i2,i3⟩:=aJ.lendSp h8 h6 zt5
  obtain ⟨t6,d5,i4,i5,i6⟩:=aJ.lendBp i2 zt4
  obtain ⟨t7,i7,hm⟩:=aB hm
  refine aR (vs:=[cS (some ⟨l,0,none⟩) 0]) call15 rfl (aGk i7 i5 i4 (h7.mono (zL i0 d5)) (i1.mono d5)) ?_
  rintro _ t8 ⟨t9,u0,u1,u2,rfl,i8⟩
  have i9:=i6 _ _ i8
  have j0:=i3 _ _ i9
  have u3:=h9 _ _ j0
  exact aHU
 ·refine aI b6 rfl (aK (aC (fA rfl rfl) (aD (v:=zB (n.1 == 1)) (aG ?_))))
  rcases aH hm with ⟨b8,hm⟩|⟨b8,hm⟩
  ·refine aL b8 rfl (aP ?_);obtain ⟨u4,j1,j2,j3,j4⟩:=aJ.lendSp a2 (zR _) zt5
   obtain ⟨u5,j5,j6,j7,j8⟩:=aJ.lendSp j3 j1 zt5
   obtain ⟨u6,d6,j9,k0,k1⟩:=aJ.lendBp j7 zt4
   obtain ⟨u7,k2,hm⟩:=aB hm
   refine aR (vs:=[cS (some ⟨l,0,none⟩) 0,zB true]) call16 rfl (aBE k2 k0 j9 (j2.mono (zL j5 d6)) (j6.mono d6)) ?_
   rintro _ u8 ⟨u9,v0,v1,v2,rfl,k3⟩
   have k4:=k1 _ _ k3
   have k5:=j8 _ _ k4
   have v3:=j4 _ _ k5
   exact aHU
  ·refine aI b8 rfl (aK (aC (fA rfl rfl) (aD (v:=zB (n.1 == 2)) (aG ?_))))
   rcases aH hm with ⟨b9,hm⟩|⟨b9,hm⟩
   ·refine aL b9 rfl (aP ?_);obtain ⟨v4,k6,k7,k8,k9⟩:=aJ.lendSp a2 (zR _) zt5
    obtain ⟨v5,l0,l1,l2,l3⟩:=aJ.lendSp k8 k6 zt5
    obtain ⟨v6,d7,l4,l5,l6⟩:=aJ.lendBp l2 zt4
    obtain ⟨v7,l7,hm⟩:=aB hm
    refine aR (vs:=[cS (some ⟨l,0,none⟩) 0,zB false]) call16 rfl (aBE l7 l5 l4 (k7.mono (zL l0 d7)) (l1.mono d7)) ?_
    rintro _ v8 ⟨v9,w0,w1,w2,rfl,l8⟩
    have l9:=l6 _ _ l8
    have m0:=l3 _ _ l9
    have w3:=k9 _ _ m0
    exact aHU
   ·refine aI b9 rfl (aK (aC (fA rfl rfl) (aD (v:=zB (n.1 == 3)) (aG ?_))))
    rcases aH hm with ⟨c0,hm⟩|⟨c0,hm⟩
    ·refine aL c0 rfl (aP ?_);obtain ⟨w4,m1,m2,m3,m4⟩:=aJ.lendSp a2 (zR _) zt5
     obtain ⟨w6,m5,m6,m7,m8⟩:=aJ.lendSp m3 m1 zt5
     obtain ⟨w7,d8,m9,n0,n1⟩:=aJ.lendBp m7 zt4
     obtain ⟨w9,n2,hm⟩:=aB hm
     refine aR (vs:=[cS (some ⟨l,0,none⟩) 0]) call17 rfl (aGo n2 n0 m9 (m2.mono (zL m5 d8)) (m6.mono d8)) ?_
     rintro _ x0 ⟨x1,x2,x3,x4,rfl,n3⟩
     have n4:=n1 _ _ n3
     have n5:=m8 _ _ n4
     have x5:=m4 _ _ n5
     exact aHU
    ·refine aI c0 rfl (aK (aC (fA rfl rfl) (aD (v:=zB (n.1 == 4)) (aG ?_))))
     rcases aH hm with ⟨c1,hm⟩|⟨c1,hm⟩
     ·refine aL c1 rfl (aK ?_);obtain ⟨x6,n6,n7,n8,n9⟩:=aJ.lendSp a2 (zR _) zt5
      obtain ⟨x7,o0,o1,o2,o3⟩:=aJ.lendSp n8 n6 zt5
      obtain ⟨x8,d9,o4,o5,o6⟩:=aJ.lendBp o2 zt4
      obtain ⟨x9,o7,hm⟩:=aB hm
      refine aR (vs:=[cS (some ⟨l,0,none⟩) 0]) call18 rfl (yH o7 o5 o4 (n7.mono (zL o0 d9)) (o1.mono d9)) ?_
      rintro _ y0 ⟨y1,y2,y3,y4,y5,y6,y7,rfl,y8,o8⟩
      have o9:=o6 _ _ o8
      have p0:=o3 _ _ o9
      have y9:=n9 _ _ p0
      exact aHU
     ·refine aI c1 rfl (aK (aC (fA rfl rfl) (aD (v:=zB (n.1 == 5)) (aG ?_))))
      rcases aH hm with ⟨e0,hm⟩|⟨e0,hm⟩
      ·refine aL e0 rfl (aK ?_);obtain ⟨z0,p1,p2,p3,p4⟩:=aJ.lendSp a2 (zR _) zt5
       obtain ⟨z1,p5,p6,p7,p8⟩:=aJ.lendSp p3 p1 zt5
       obtain ⟨z2,e1,p9,q0,q1⟩:=aJ.lendBp p7 zt4
       obtain ⟨c,q2,hm⟩:=aB hm
       refine aR (vs:=[cS (some ⟨l,0,none⟩) 0]) call19 rfl (aHD q2 q0 p9 (p2.mono (zL p5 e1)) (p6.mono e1)) ?_
       rintro _ z3 ⟨V,Z,y,z,rfl,q3⟩
       have q4:=q1 _ _ q3
       have q5:=p8 _ _ q4
       have q6:=p4 _ _ q5
       refine cA (i:=6) (ns:=(zC c V Z y z)) (us:=(zC c V Z y z)) sizeOf27 q6 rfl rfl rfl rfl rfl (cY rfl) rfl rfl (fun e2 (c3:aJ G K (aN 9 K e g a.1.L::aN 66 K h j a.1.E::box l 27 (zC a.1 e g h j)::aN 9 K V Z c.L::aN 66 K y z c.E::box k 73 [zS a1 m.length c2,i64 n.2.1,Value.int .u64 n.2.2]::box a5 27 (zC c V Z y z)::aN 9 K o p b.1.L::aN 66 K q r b.1.E::box x 27 d::box u 27 d::L) e2)=>(aG (aK (aC (bT (t':=3) cU rfl rfl) (aC (dC eS c3 (i:=6) rfl rfl rfl) (aC (bO (len:=c.E.length) cL rfl) (aC (kC rfl rfl) (aG ?_))))))))
       rcases aH hm with ⟨e3,hm⟩|⟨e3,hm⟩
       ·refine aL e3 rfl (aK (aF (v:=zP (some ⟨k,0,none⟩)) (aC (bT (t':=3) cU rfl rfl) (aC (dC eS c3 (i:=6) rfl rfl rfl) (aC (bO (len:=c.E.length) cL rfl) ?_)))))
        have q7:aJ G K (box k 73 [zS a1 m.length c2,i64 n.2.1,Value.int .u64 n.2.2]::aN 9 K e g a.1.L::aN 66 K h j a.1.E::box l 27 (zC a.1 e g h j)::aN 9 K V Z c.L::aN 66 K y z c.E::box a5 27 (zC c V Z y z)::aN 9 K o p b.1.L::aN 66 K q r b.1.E::box x 27 d::box u 27 d::L) e2:=(aJ.arr 6 [5,0,1,2,3,4] c3 rfl)
        obtain ⟨a3,q8,hm⟩:=aB hm
        refine aR (vs:=[zP (some ⟨k,0,none⟩),i64 (c.E.length:Int)]) call14 rfl (cW q8 q7 h3) ?_
        rintro _ z4 ⟨rfl,q9⟩
        refine aD (v:=i64 a3.1) (aG ?_);obtain ⟨e4,z5,e5,e6,r0⟩:=aJ.lendBp q9 zt6
        refine dT (C:=fun w'=>∃ L',aJ G e4 L' w') [(0,0),(1,0),(2,0),(3,0),(4,0),(5,0),(6,0),(7,0),(8,0),(9,1),(10,0),(11,2)] bY (by kernel_rfl) (fun _ hg=>⟨_,aJ.mono e6 hg⟩) (fun z6 r1=>?_)
        have a0:=aJ.mono e6 r1
        refine bQ rfl (fun _ _=>bT (t':=3) cU rfl rfl) (bQ rfl (fun _ ⟨_,a0⟩=>bG (t:=3) eS a0 e5 rfl rfl) (bQ rfl (fun _ _=>bA (v:=i64 a3.1) rfl) ?_));obtain ⟨z7,e7,hm⟩:=aB hm
        have r2:=kO a0 (i:=5) rfl
        obtain ⟨z8,z9,e8⟩:=Cut.ex 3 y z 0
        refine bQ rfl (fun _ _=>aDS cL r2 e8 rfl rfl rfl e7) (bQ rfl (fun _ _=>bT (t':=3) cU rfl rfl) (bQ rfl (fun _ ⟨_,a0⟩=>bG (t:=3) eS a0 e5 rfl rfl) (bQ rfl (fun _ _=>bA (v:=i64 a3.1) rfl) (bQ rfl (fun _ _=>cE rfl rfl) ?_))));obtain ⟨a00,e9,hm⟩:=aB hm
        have r3:=kO a0 (i:=5) rfl
        obtain ⟨a01,a02,f0⟩:=Cut.ex 3 y z (wr (a3.1+1))
        refine bQ rfl (fun _ _=>qF cL r3 f0 rfl rfl rfl e9) (jE rfl ?_);obtain ⟨r4,r5,hm⟩:=aB hm
        refine WO_appV (i:=5) cL underlying25 gC rfl rfl a0 rfl e7 e8 e9 f0 r5 rfl rfl rfl rfl (fun r6 r7 r8 (f1:aJ G e4 (box k 73 [zS a1 m.length c2,i64 a3.2.1,Value.int .u64 a3.2.2]::aN 9 K e g a.1.L::aN 66 K h j a.1.E::box l 27 (zC a.1 e g h j)::aN 9 K V Z c.L::aN 66 K r6 r7 r4::aN 9 K o p b.1.L::aN 66 K q r b.1.E::box x 27 d::box u 27 d::L) r8)=>(bB (aA ⟨⟨_,f1⟩,?_⟩)))
        refine bQ rfl (fun _ _=>bT (t':=3) cU rfl rfl) ?_
        have a03:=r0 _ _ f1
        exact aHU
       ·exact aHU
      ·exact aHU
theorem qG {t:cI} {k:Int} {R:Bool} (hm:oY t k=some R) (a:aJ G K (L) w) (b:cF K a1 c2 t.L) (c:cF K a4 c5 t.E):
  Calls prog 48 ([zA (zCa t a1 c2 a4 c5),i64 k]:List Value).toArray w (eH fun v w'=>v=zB R/\aJ G K (L) w'):=by
 exact aHU
theorem aIg {i many:Int} {R:Bool} (hm:aIe i many=some R) (a:aJ G K (L) w):
  Calls prog 50 ([i64 i,i64 many]:List Value).toArray w (eH fun v w'=>v=zB R/\aJ G K (L) w'):=by
 exact aHU
theorem jM {t:cI} {R:Bool} (hm:lW t=some R) (y:aJ G K (L) w) (hG:G.lo=0) (k:cF K a1 c2 t.L) (l:cF K a4 c5 t.E):
  Calls prog 20 ([zA (zCa t a1 c2 a4 c5)]:List Value).toArray w (eH fun v w'=>v=zB R/\aJ G K (L) w'):=by
 let b:=(zC t a1 c2 a4 c5)
 refine aS func20 rfl (by kernel_rfl) (by show (1:Nat)<=109;decide) ?_;unfold lW at hm
 refine aK (fJ (v:=zA (zCa t a1 c2 a4 c5)) (vs:=b) y rfl rfl (fun c w8 b8=>(aD (v:=zB false) (aG (aO (aO (cP [1] (fun f w=>∃ g,mL t g=some R/\f 30=zB g/\aJ G K (box c 27 b::L) w) ?_ ?_)))))))
 ·rintro f b9 ⟨g,hm,z,V⟩
  unfold mL at hm
  refine aA ?_
  rcases aH hm with ⟨m,hm⟩|⟨m,hm⟩
  ·exact aHU
  ·refine aI m z (aU (aA (aO (aK (aC (bT (t':=2) eU rfl rfl) (aC (dC eR V (i:=0) rfl rfl rfl) (aC (bO (len:=t.L.length) bX rfl) (aF (v:=i64 0) (aG (aW [1] (fun f w=>uI t=some R/\aJ G K (box c 27 b::L) w) ?_ ?_))))))))))
   ·rintro f c0 ⟨hm,Z⟩
    unfold uI at hm
    refine aA (aO (aK (aC (bT (t':=3) cU rfl rfl) (aC (dC eS Z (i:=0) rfl rfl rfl) (aC (bO (len:=t.E.length) cL rfl) (aF (v:=i64 0) (aG (aW [] (fun f w=>uH=some R/\aJ G K (L) w) aHU ?_))))))));obtain ⟨c1,a0,ho⟩:=aB hm
    refine dM [1,65,66] a0 (fun d f w=>f 67=i64 d/\aJ G K (box c 27 b::L) w) aHU ?_
    ·rintro d a2 f c3 hm hr ⟨h,n⟩
     unfold aDz at hm
     refine aK (aC (cG h rfl) (aG (aO ?_)))
     rcases aH hm with ⟨o,hm⟩|⟨o,hm⟩
     ·refine aL o rfl (aU (aA (aO (cN (aK (aY h ?_))))));obtain ⟨a,p,hm⟩:=aB hm
      refine aC (cT cL rfl l rfl rfl h p) ?_;obtain ⟨c4,a3,a5⟩:=cF.el (sz:=3) rfl l p
      cases a5
      exact aC (eI (t:=0) (vs:=[i64 a.F,i64 a.B,i64 a.To]) kD n a3 rfl rfl rfl) (bZ (vs:=[i64 0,i64 0,i64 0]) zeroValue66 n rfl (fun a6 c6 a7=>(aD (v:=i64 d) (cA (i:=0) (ns:=[i64 a.F,i64 a.B,i64 a.To]) (us:=[i64 a.F,i64 a.B,i64 a.To]) sizeOf66 a7 rfl rfl rfl rfl rfl (cY rfl) rfl rfl (fun a8 (c7:aJ G K (box a6 66 [i64 a.F,i64 a.B,i64 a.To]::box c 27 b::L) a8)=>(aG (aO (cP [1,65,66,67] (fun f w=>∃ q,lG d q=some a2/\f 107=zB q/\aJ G K (box c 27 b::L) w) aHU aHU))))))))
     ·exact aHU
   obtain ⟨c8,a9,ho⟩:=aB hm
   refine dM [1,32,33] a9 (fun e f w=>f 34=i64 e/\aJ G K (box c 27 b::L) w) aHU ?_
   ·rintro e b0 f c9 hm hr ⟨j,b1⟩
    unfold aDA at hm
    refine aK (aC (cG j rfl) (aG (aO ?_)))
    rcases aH hm with ⟨r,hm⟩|⟨r,hm⟩
    ·refine aL r rfl (aU (aA (aO (cN (aK (aY j ?_))))));obtain ⟨b2,u,hm⟩:=aB hm
     refine aC (cT bX rfl k rfl rfl j u) ?_;obtain ⟨d0,b3,b4⟩:=cF.el (sz:=1) rfl k u
     cases b4
     exact aC (bG (t:=0) lF b1 b3 rfl rfl) (aD (v:=i64 e) (aD (v:=str b2) (aG (aO (cP [1,32,33,34] (fun f w=>∃ x,mK e x=some b0/\f 62=zB x/\aJ G K (box c 27 b::L) w) aHU aHU)))))
    ·exact aHU
 exact aHU
theorem qH {a:(List Int)} {b R:Int} (hm:jB a b=some R) (e:aJ G K (L) w) (g:cF K a1 c2 a):
  Calls prog 156 ([zS a1 a.length c2,i64 b]:List Value).toArray w (eH fun v w'=>v=i64 R/\aJ G K (L) w'):=by
 refine aS func156 rfl (by kernel_rfl) (by show (2:Nat)<=19;decide) ?_;unfold jB at hm
 refine aK (aD (v:=i64 0) (aG (aO (aK (aF (v:=zS a1 a.length c2) (aC (bO (len:=a.length) cC rfl) (aF (v:=i64 0) (aG (aW [] (fun f w=>fO=some R/\aJ G K (L) w) aHU ?_)))))))));obtain ⟨h,c,ho⟩:=aB hm
 exact dM [0,1,7] c (fun d f w=>f 8=i64 d/\aJ G K (L) w) aHU aHU
theorem jJ {a:(List Int)} {b:Int} {R:Bool} (hm:fP a b=some R) (c:aJ G K (L) w) (d:cF K a1 c2 a):
  Calls prog 124 ([zS a1 a.length c2,i64 b]:List Value).toArray w (eH fun v w'=>v=zB R/\aJ G K (L) w'):=by
 exact aHU
theorem oR {a R:(List Int)} (hm:iQ a=some R) (hs:aJ G K (aN 2 K a1 c2 a::L) w):
  Calls prog 155 ([zS a1 a.length c2]:List Value).toArray w (eH fun v w'=>∃ a3 a4,v=zS a3 R.length a4/\aJ G K (aN 2 K a3 a4 R::L) w'):=by
 refine aS func155 rfl (by kernel_rfl) (by show (1:Nat)<=61;decide) ?_;unfold iQ at hm
 refine aK (aD (v:=zS none 0 0) (aG (aO (aK (aF (v:=zS a1 a.length c2) (aC (bO (len:=a.length) cC rfl) (aC (cG rfl rfl) (aG ?_))))))))
 rcases aH hm with ⟨c3,hm⟩|⟨c3,hm⟩
 ·exact aHU
 ·refine aI c3 rfl (aU (aA (aO (aK (aD (v:=i64 1) (aG (aW [0] (fun f w=>fD a=some R/\aJ G K (aN 2 K a1 c2 a::L) w) aHU ?_)))))));obtain ⟨f3,d5,ho⟩:=aB hm
  refine dM [0] d5 (fun d f w=>f 3=i64 d/\aJ G K (aN 2 K a1 c2 a::L) w) aHU ?_
  ·rintro d a6 f f4 hm hr ⟨m,b⟩
   unfold kK at hm
   refine aO (aK (aY m (aF (v:=zS a1 a.length c2) (aC (bO (len:=a.length) cC rfl) (aC (cG rfl rfl) (aG ?_))))))
   rcases aH hm with ⟨a7,hm⟩|⟨a7,hm⟩
   ·refine aL a7 rfl (aU (aA (aO (aW [0] (fun f w=>gV d=some a6/\f 3=i64 d/\aJ G K (aN 2 K a1 c2 a::L) w) ?_ ?_))))
    ·rintro f f5 ⟨hm,d6,d7⟩
     unfold gV at hm
     exact aA (aP (aY d6 (aC (cE rfl rfl) (aD (v:=i64 (wr (d+1))) (aG ⟨_,(zI hm).symm,aM,rfl,d7⟩)))))
    refine aO (dO (C:=fun w'=>aJ G K (aN 2 K a1 c2 a::L) w') bY (by kernel_rfl) (aJ.mono b (dK.drew _)) (bD (fun _ b=>bA (v:=zS a1 a.length c2) rfl) (bD (fun _ b=>bA m) ?_)));obtain ⟨f6,Z,hm⟩:=aB hm
    have e:=cX b (i:=0) rfl Z
    refine bD (fun _ b=>dD cC rfl e rfl rfl rfl Z) (bD (fun _ b=>gX (t:=0) cQ b (i:=0) rfl Z rfl rfl rfl) (bD (fun _ b=>bA (v:=zS a1 a.length c2) rfl) (bD (fun _ b=>bA m) (bD (fun _ b=>iK rfl rfl) ?_))));obtain ⟨f7,a8,hm⟩:=aB hm
    refine bD (fun _ b=>dD cC rfl e rfl rfl rfl a8) (bD (fun _ b=>gX (t:=0) cQ b (i:=0) rfl a8 rfl rfl rfl) (bD (fun _ b=>fA rfl rfl) (dS (fun f8 d8=>(aA ?_)))))
    rcases aH hm with ⟨a9,hm⟩|⟨a9,hm⟩
    ·refine aL a9 rfl (aK (aF (v:=zS a1 a.length c2) (aY m ?_)));obtain ⟨g,o,hm⟩:=aB hm
     have p:=kO d8 (i:=0) rfl
     obtain ⟨j,k,q⟩:=Cut.ex 1 a1 c2 d
     refine aC (qF cC p q rfl rfl rfl o) (aD (v:=zS j g.length k) (aG (aO (aK (aD (v:=i64 1) (aG (aW [] (fun f w=>∃ r u,fE r u=some a6/\f 0=zS a1 r.length c2/\f 3=i64 u/\aJ G K (aN 2 K a1 c2 r::L) w) ?_ ?_)))))))
     ·rintro f f9 ⟨r,u,hm,b0,b1,b2⟩
      unfold fE at hm
      refine aA (aK (aY b0 (aY b1 ?_)));obtain ⟨g0,d9,hm⟩:=aB hm
      have e0:=kO b2 (i:=0) rfl
      obtain ⟨g1,g2,b3⟩:=Cut.ex 1 a1 c2 u
      refine aC (qF cC e0 b3 rfl rfl rfl d9) ?_;obtain ⟨b4,b5,hm⟩:=aB hm
      refine xK cC iV rfl b2 (i:=0) rfl b3 rfl rfl b5 (fun b6 (b7:aJ G K (aN 2 K a1 c2 b4::L) b6)=>(aG (aK (aY (v:=zS a1 b4.length c2) (Eq.trans b0 (congrArg (fun n=>zS a1 n c2) (aCM b5))) (aY b1 ?_)))));obtain ⟨a0,b8,hm⟩:=aB hm
      have e1:=kO b7 (i:=0) rfl
      obtain ⟨b9,c0,c1⟩:=Cut.ex 1 a1 c2 0
      refine aC (aDS cC e1 c1 rfl rfl rfl b8) (aD (v:=zS b9 a0.length c0) (aG (bH (bM (aQ (aQ (aQ ?_)))))))
      have e2:=hr _ (zI hm).symm
      subst e2
      have hm:(some a0)=some R:=ho
      clear hr ho
      have g3:aJ G K (aN 2 K b9 c0 a0::L) b6:=aJ.cutP b7 (i:=0) rfl b8 c1
      exact aHU
     obtain ⟨g4,e3,ho⟩:=aB hm
     refine jO [4] e3 (fun x y z f w=>f 0=zS a1 x.length c2/\f 3=i64 y/\f 5=i64 z/\aJ G K (aN 2 K a1 c2 x::L) w) aHU ?_
     ·rintro x y z e4 f g5 hm hr ⟨c4,c5,l,c⟩
      unfold kJ at hm
      refine aO (aK (aY l (aF (v:=zS j g.length k) (aC (bO (len:=g.length) cC rfl) (aC (cG rfl rfl) (aG ?_))))))
      rcases aH hm with ⟨c6,hm⟩|⟨c6,hm⟩
      ·refine aL c6 rfl (aU (aA (aO (aW [4,5] (fun f w=>∃ V a2,fF z V a2=some e4/\f 0=zS a1 V.length c2/\f 3=i64 a2/\aJ G K (aN 2 K a1 c2 V::L) w) ?_ ?_))))
       ·rintro f g6 ⟨V,a2,hm,e5,e6,e7⟩
        unfold fF at hm
        exact aA (aP (aY l (aC (cE rfl rfl) (aD (v:=i64 (wr (z+1))) (aG ⟨_,(zI hm).symm,aM,e5,e6,rfl,e7⟩)))))
       refine aO (dO (C:=fun w'=>aJ G K (aN 2 K a1 c2 x::L) w') bY (by kernel_rfl) (aJ.mono c (dK.drew _)) (bD (fun _ c=>bA (v:=zS j g.length k) rfl) (bD (fun _ c=>bA l) ?_)));obtain ⟨g7,c7,hm⟩:=aB hm
       obtain ⟨c8,c9,hm⟩:=aB hm
       refine bD (fun _ c=>aBr cC e q o p rfl rfl rfl c7 rfl) (bD (fun _ c=>gX (t:=0) cQ c (i:=0) rfl c9 rfl rfl rfl) (bD (fun _ c=>bA (v:=zS j g.length k) rfl) (bD (fun _ c=>bA l) (bD (fun _ c=>iK rfl rfl) ?_))));obtain ⟨g8,e8,hm⟩:=aB hm
       obtain ⟨g9,e9,hm⟩:=aB hm
       refine bD (fun _ c=>aBr cC e q o p rfl rfl rfl e8 rfl) (bD (fun _ c=>gX (t:=0) cQ c (i:=0) rfl e9 rfl rfl rfl) (bD (fun _ c=>qQ rfl rfl) (dS (fun h0 d0=>(aA ?_)))))
       rcases aH hm with ⟨d1,hm⟩|⟨d1,hm⟩
       ·refine aL d1 rfl (aK (aY c4 (aY c5 (aF (v:=zS j g.length k) (aY l (aC (aBr cC e q o p rfl rfl rfl c7 rfl) (aC (gX (t:=0) cQ d0 (i:=0) rfl c9 rfl rfl rfl) ?_)))))));obtain ⟨h1,d2,hm⟩:=aB hm
        refine aC (dD cC rfl e rfl rfl rfl d2) ?_;obtain ⟨d3,d4,hm⟩:=aB hm
        exact jL (i:=0) (t:=0) (ns:=[i64 c8]) (e':=(c8:Int)) sizeOf2 d0 rfl (zR _) rfl rfl rfl d2 d4 rfl rfl (cY rfl) rfl (fun cs h=>by cases h;rfl) (fun f0 (f1:aJ G K (aN 2 K a1 c2 d3::L) f0)=>(aG (aP (aY c5 (aC (cE rfl rfl) (aD (v:=i64 (wr (y+1))) (bB (aX (aA ⟨aM,d3,wr (y+1),hm,(Eq.trans c4 (congrArg (fun n=>zS a1 n c2) (iM d4))),rfl,f1⟩)))))))))
       ·exact aHU
      ·exact aHU
    ·exact aHU
   ·exact aHU
theorem sV {t:cI} {q:(List Int)} {u:aZ} {R:(List Int)} (hm:rX t q u=some R) (hs:aJ G K (L) w) (h3:cF K a1 c2 t.L) (x:cF K a4 c5 t.E) (h9:cF K a7 c8 q):
  Calls prog 123 ([zA (zCa t a1 c2 a4 c5),zS a7 q.length c8,str u]:List Value).toArray w (eH fun v w'=>∃ y z,v=zS y R.length z/\aJ G K (aN 2 K y z R::L) w'):=by
 let e:=(zC t a1 c2 a4 c5)
 refine aS func123 rfl (by kernel_rfl) (by show (3:Nat)<=41;decide) ?_;unfold rX at hm
 refine aK (fJ (v:=zA (zCa t a1 c2 a4 c5)) (vs:=e) hs rfl rfl (fun l c7 V=>(aD (v:=zS none 0 0) (aG (aK (aD (v:=zS none 0 0) (aG (aO (aK (aC (bT (t':=3) cU rfl rfl) (aC (dC eS V (i:=0) rfl rfl rfl) (aC (bO (len:=t.E.length) cL rfl) (aF (v:=i64 0) (aG (aW [] (fun f w=>∃ g b c,pO g=some R/\f 7=zS b g.length c/\aJ G K (aN 2 K b c g::L) w) ?_ ?_)))))))))))))))
 ·rintro f c9 ⟨g,b,c,hm,Z,b1⟩
  unfold pO at hm
  refine aA (aK (aY Z ?_));obtain ⟨a0,b2,hm⟩:=aB hm
  refine aR (vs:=[zS b g.length c]) call125 rfl (aGc b1 b2) ?_
  rintro _ d0 ⟨rfl,b3,b4⟩
  refine aG (aK (aY (v:=zS b a0.length c) (Eq.trans Z (congrArg (fun n=>zS b n c) b3)) ?_));obtain ⟨d1,b5,hm⟩:=aB hm
  exact aR (vs:=[zS b a0.length c]) call155 rfl (oR b5 b4) aHU
 have d2:=aJ.nil (α:=Int) V 2 K
 obtain ⟨d3,b6,ho⟩:=aB hm
 refine cJ [1,2,3,11,12] b6 (fun d h f w=>∃ j k,f 7=zS j d.length k/\f 13=i64 h/\aJ G K (aN 2 K j k d::box l 27 e::L) w) aHU ?_
 ·rintro d h a2 f d4 hm hr ⟨j,k,d5,r,a3⟩
  unfold aBz at hm
  refine aK (aC (cG r rfl) (aG (aO ?_)))
  rcases aH hm with ⟨a5,hm⟩|⟨a5,hm⟩
  ·refine aL a5 rfl (aU (aA (aO (aW [1,2,3,11,12,13] (fun f w=>∃ m o p,pP h m=some a2/\f 7=zS o m.length p/\aJ G K (aN 2 K o p m::box l 27 e::L) w) ?_ ?_))))
   ·rintro f d6 ⟨m,o,p,hm,b7,b8⟩
    unfold pP at hm
    exact aA (aP (aC (cE r rfl) (aF (v:=i64 (wr (h+1))) (aG ⟨_,(zI hm).symm,aM,o,p,b7,rfl,b8⟩))))
   refine aK ?_;obtain ⟨a,a6,hm⟩:=aB hm
   refine aC (cT cL rfl x rfl rfl r a6) ?_;obtain ⟨d7,b9,c0⟩:=cF.el (sz:=3) rfl x a6
   cases c0
   exact aC (eI (t:=0) (vs:=[i64 a.F,i64 a.B,i64 a.To]) kD a3 b9 rfl rfl rfl) (bZ (vs:=[i64 0,i64 0,i64 0]) zeroValue66 a3 rfl (fun a8 d8 c1=>(cA (i:=0) (ns:=[i64 a.F,i64 a.B,i64 a.To]) (us:=[i64 a.F,i64 a.B,i64 a.To]) sizeOf66 c1 rfl rfl rfl rfl rfl (cY rfl) rfl rfl (fun c3 (d9:aJ G K (box a8 66 [i64 a.F,i64 a.B,i64 a.To]::aN 2 K j k d::box l 27 e::L) c3)=>(aG (aO (cP [1,2,3,7,9,11,12,13] (fun f w=>∃ a9,pQ d h a a9=some a2/\f 30=zB a9/\aJ G K (box a8 66 [i64 a.F,i64 a.B,i64 a.To]::aN 2 K j k d::box l 27 e::L) w) aHU aHU)))))))
  ·exact aHU
theorem kN {a R:(List Int)} (hm:gQ a=some R) (j:aJ G K (L) w) (d:cF K a1 c2 a):
  Calls prog 122 ([zS a1 a.length c2]:List Value).toArray w (eH fun v w'=>∃ e g,v=zS e R.length g/\aJ G K (aN 2 K e g R::L) w'):=by
 refine aS func122 rfl (by kernel_rfl) (by show (1:Nat)<=8;decide) ?_;unfold gQ at hm
 refine aK (aD (v:=zS none 0 0) (aG (aO (aK (aF (v:=zS a1 a.length c2) (aC (aQX cC rfl rfl) (aG ?_)))))))
 rcases aHM d with ⟨k,l,m⟩|n
 ·subst k;subst l;subst m
  refine aIq rfl ?_
  replace hm:(some [])=some R:=hm
  exact aHU
 ·refine aIr (Eq.trans rfl (congrArg zB n)) (aU (aA (aK (cB (Kt:=K) (xs:=([]:List Int)) (cs:=[]) (vs:=[]) cC iV rfl rfl j rfl (by kernel_rfl) rfl rfl rfl trivial (fun o p (q:aJ G K (aN 2 K o 0 ([]:List Int)::L) p)=>(aF (v:=zS a1 a.length c2) ?_))))));obtain ⟨h,r,hm⟩:=aB hm
  refine kP (i:=0) cC underlying56 iV rfl rfl q rfl (zR _) d r rfl rfl rfl rfl (fun b c t (u:aJ G K (aN 2 K b c h::L) t)=>(aD (v:=zS b h.length c) (aG ?_)));obtain rfl:=zI hm
  exact bH (bI results122 rfl ⟨b,c,rfl,u⟩)
theorem oS {t:cI} {d R:(List Int)} (hm:nM t d=some R) (hs:aJ G K (L) w) (h3:cF K a1 c2 t.L) (h6:cF K a4 c5 t.E) (h9:cF K a7 c8 d):
  Calls prog 70 ([zA (zCa t a1 c2 a4 c5),zS a7 d.length c8]:List Value).toArray w (eH fun v w'=>∃ a9 b0,v=zS a9 R.length b0/\aJ G K (aN 2 K a9 b0 R::L) w'):=by
 let c:=(zC t a1 c2 a4 c5)
 refine aS func70 rfl (by kernel_rfl) (by show (2:Nat)<=41;decide) ?_;unfold nM at hm
 refine aK (fJ (v:=zA (zCa t a1 c2 a4 c5)) (vs:=c) hs rfl rfl (fun e g9 d6=>(aD (v:=zS none 0 0) (aG (aK (aF (v:=zS a7 d.length c8) ?_))))));obtain ⟨d7,d8,hm⟩:=aB hm
 refine aR (vs:=[zS a7 d.length c8]) call122 rfl (kN d8 d6 h9) ?_
 rintro _ h0 ⟨d9,e0,rfl,h1⟩
 refine aD (v:=zS d9 d7.length e0) (aG (aO (aK (aD (v:=i64 0) (aG (aW [] (fun f w=>∃ g a b,mW g=some R/\f 5=zS a g.length b/\aJ G K (aN 2 K a b g::L) w) ?_ ?_))))))
 ·rintro f h2 ⟨g,a,b,hm,b1,e1⟩
  unfold mW at hm
  refine aA (aK (aY b1 ?_));obtain ⟨b2,e2,hm⟩:=aB hm
  refine aR (vs:=[zS a g.length b]) call125 rfl (aGc e1 e2) ?_
  rintro _ h4 ⟨rfl,e3,e4⟩
  refine aG (aK (aY (v:=zS a b2.length b) (Eq.trans b1 (congrArg (fun n=>zS a n b) e3)) (aD (v:=zS a b2.length b) (aG ?_))));obtain rfl:=zI hm
  exact bH (bI results70 rfl ⟨a,b,rfl,e4⟩)
 obtain ⟨h5,e6,ho⟩:=aB hm
 refine cJ [2] e6 (fun l h f w=>∃ y z,f 5=zS y l.length z/\f 6=i64 h/\aJ G K (aN 2 K y z l::box e 27 c::L) w) aHU ?_
 ·rintro l h b3 f h7 hm hr ⟨y,z,b4,V,e7⟩
  unfold zZ at hm
  refine aO (aK (aY V (aY b4 (aC (bO (len:=l.length) cC rfl) (aC (cG rfl rfl) (aG ?_))))))
  rcases aH hm with ⟨b5,hm⟩|⟨b5,hm⟩
  ·refine aL b5 rfl (aU (aA (aO (aW [2,6] (fun f w=>∃ m o p,rY h m=some b3/\f 5=zS o m.length p/\aJ G K (aN 2 K o p m::box e 27 c::L) w) ?_ ?_))))
   ·rintro f h8 ⟨m,o,p,hm,e8,e9⟩
    unfold rY at hm
    exact aA (aP (aY V (aC (cE rfl rfl) (aD (v:=i64 (wr (h+1))) (aG ⟨_,(zI hm).symm,aM,o,p,e8,rfl,e9⟩)))))
   refine aO ?_;obtain ⟨i0,Z,b6,f0,f1⟩:=aJ.lendSp e7 (zR _) .head
   obtain ⟨b7,i,f2,b8,f3⟩:=aJ.lendBp f0 .head
   refine dT (C:=fun w'=>∃ L',aJ G b7 L' w') [(0,0),(1,0),(2,0),(3,0),(4,0),(8,0),(5,1),(6,1),(7,0)] bY (by kernel_rfl) (fun _ hg=>⟨_,aJ.mono b8 hg⟩) (fun i1 f4=>?_)
   have j:=aJ.mono b8 f4
   refine bQ rfl (fun _ ⟨_,j⟩=>eI (t:=0) (vs:=c) cV j f2 rfl rfl rfl) (bQ rfl (fun _ _=>bA b4) (bQ rfl (fun _ _=>bA V) ?_));obtain ⟨k,a0,hm⟩:=aB hm
   have f5:=aAS (b6.mono i) a0
   refine bQ rfl (fun _ _=>dD cC rfl f5 rfl rfl rfl a0) ?_;obtain ⟨i2,f6,f7⟩:=cF.el (sz:=1) rfl (b6.mono i) a0
   cases f7
   refine bQ rfl (fun _ ⟨_,j⟩=>bG (t:=0) cQ j f6 rfl rfl) (bQ rfl (fun _ _=>bA (v:=i64 0) rfl) (jE rfl (cB (Kt:=K) (xs:=([k]:List Int)) (cs:=[i64 k]) (vs:=[(0,i64 k)]) cC iV rfl rfl j rfl (by kernel_rfl) rfl rfl rfl ⟨rfl,trivial⟩ (fun b9 f8 (c0:aJ G b7 (aN 2 K b9 1 ([k]:List Int)::L) f8)=>(bB (aA ⟨⟨_,c0⟩,?_⟩))))))
   refine jE rfl ?_;obtain ⟨i3,c1,f9,g0,g1⟩:=aJ.lendSp c0 (zL Z i) .head
   obtain ⟨a2,g2,hm⟩:=aB hm
   refine aR (vs:=[zA (zCa t a1 c2 a4 c5),zS b9 ([k]:List Int).length 1,str ([116,97,117]:aZ)]) call123 rfl (sV g2 g0 (h3.mono (zL (zL Z i) c1)) (h6.mono (zL (zL Z i) c1)) f9) ?_
   rintro _ i4 ⟨c3,c4,rfl,g3⟩
   have c6:=g1 _ _ g3
   refine bB (aA ⟨⟨_,c6⟩,?_⟩)
   refine bQ rfl (fun _ _=>bO (len:=a2.length) cC rfl) (iO ?_)
   have g4:=f3 _ _ c6
   have i5:=f1 _ _ g4
   refine aA (aW [2,6] (fun f w=>∃ a3 c7 c9,mX h a3=some b3/\f 5=zS c7 a3.length c9/\aJ G K (aN 2 K c7 c9 a3::box e 27 c::L) w) aHU ?_);obtain ⟨i6,g5,ho⟩:=aB hm
   refine cJ [2,6,23,24] g5 (fun a5 q f w=>∃ a6 a8,f 5=zS a6 a5.length a8/\f 25=i64 q/\aJ G K (aN 2 K a6 a8 a5::box e 27 c::aN 2 K c3 c4 a2::L) w) aHU ?_
   ·rintro a5 q g6 f i7 hm hr ⟨a6,a8,i8,d0,i9⟩
    unfold zY at hm
    refine aK (aC (cG d0 rfl) (aG (aO ?_)))
    rcases aH hm with ⟨d1,hm⟩|⟨d1,hm⟩
    ·refine aL d1 rfl (aU (aA (aO (aW [2,6,23,24,25] (fun f w=>∃ r u x,mY q r=some g6/\f 5=zS u r.length x/\aJ G K (aN 2 K u x r::box e 27 c::aN 2 K c3 c4 a2::L) w) ?_ ?_))))
     ·rintro f j0 ⟨r,u,x,hm,g7,g8⟩
      unfold mY at hm
      exact aA (aP (aC (cE d0 rfl) (aF (v:=i64 (wr (q+1))) (aG ⟨_,(zI hm).symm,aM,u,x,g7,rfl,g8⟩))))
     exact aHU
    ·exact aHU
  ·exact aHU
end Gv
namespace Gv
open Go.Value renaming slice→zS,bool→zB,pointer→zP,agg→zA,tuple→zT,map→zM
open Option.some renaming inj→zI
open Gv.Hp renaming le_trans→zL,le_refl→zR
open Go Go.Proofs Go.Proofs.Tryz
set_option maxRecDepth 20000
set_option maxHeartbeats 40000000
variable {G:qN} {K Kf:Hp} {L:List gH} {w:World} {a1 a4 a7 a2 a5 a6 a9 a11 a14 a17 a20 a10:Option Addr} {c2 c5 c8 b1 c3 c6 b4 b5 c7 c10 c18 c21 c11:Nat}
theorem yJ {t:cI} {b:(List Int)} {d:aZ} {R:(List Int)} (hm:pA t b d=some R) (r:aJ G K (L) w) (g:cF K a1 c2 t.L) (h:cF K a4 c5 t.E) (u:cF K a7 c8 b):
  Calls prog 71 ([zA (zCa t a1 c2 a4 c5),zS a7 b.length c8,str d]:List Value).toArray w (eH fun v w'=>∃ i j,v=zS i R.length j/\aJ G K (aN 2 K i j R::L) w'):=by
 let e:=(zC t a1 c2 a4 c5)
 refine aS func71 rfl (by kernel_rfl) (by show (3:Nat)<=13;decide) ?_;unfold pA at hm
 refine aK (fJ (v:=zA (zCa t a1 c2 a4 c5)) (vs:=e) r rfl rfl (fun b4 b5 x=>(aD (v:=zS none 0 0) (aG (aO ?_)))));obtain ⟨y,a,k,l,z⟩:=aJ.lendBp x .head
 refine dT (C:=fun w'=>∃ L',aJ G y L' w') [(0,0),(1,0),(2,0),(3,0),(4,1),(5,1),(6,0)] bY (by kernel_rfl) (fun _ hg=>⟨_,aJ.mono l hg⟩) (fun b6 V=>?_)
 have c:=aJ.mono l V
 refine bQ rfl (fun _ ⟨_,c⟩=>eI (t:=0) (vs:=e) cV c k rfl rfl rfl) (bQ rfl (fun _ ⟨_,c⟩=>eI (t:=0) (vs:=e) cV c k rfl rfl rfl) (bQ rfl (fun _ _=>bA (v:=zS a7 b.length c8) rfl) (bQ rfl (fun _ _=>bA (v:=str d) rfl) (jE rfl ?_))));obtain ⟨Z,a0,hm⟩:=aB hm
 refine aR (vs:=[zA (zCa t a1 c2 a4 c5),zS a7 b.length c8,str d]) call123 rfl (sV a0 c (g.mono a) (h.mono a) (u.mono a)) ?_
 rintro _ b7 ⟨a2,a3,rfl,m⟩
 refine bB (aA ⟨⟨_,m⟩,?_⟩)
 refine jE rfl ?_;obtain ⟨b8,n,a5,a6,a8⟩:=aJ.lendSp m a .head
 obtain ⟨a9,b0,hm⟩:=aB hm
 refine aR (vs:=[zA (zCa t a1 c2 a4 c5),zS a2 Z.length a3]) call70 rfl (oS b0 a6 (g.mono (zL a n)) (h.mono (zL a n)) a5) ?_
 rintro _ b9 ⟨o,p,rfl,b1⟩
 have q:=a8 _ _ b1
 refine bB (aA ⟨⟨_,q⟩,?_⟩)
 refine bQ rfl (fun _ _=>cZ (v:=zS o a9.length p) rfl) (iO ?_)
 have b2:=z _ _ q
 refine aA ?_;obtain rfl:=zI hm
 exact bH (bI results71 rfl ⟨o,p,rfl,(aJ.arr 2 [] b2 rfl)⟩)
theorem lM {t:cI} {b:(List aZ)} {R:(List Int)} (hm:nN t b=some R) (hs:aJ G K (L) w) (q:cF K a1 c2 t.L) (r:cF K a4 c5 t.E) (u:cF K a7 c8 b):
  Calls prog 26 ([zA (zCa t a1 c2 a4 c5),zS a7 b.length c8]:List Value).toArray w (eH fun v w'=>∃ x y,v=zS x R.length y/\aJ G K (aN 2 K x y R::L) w'):=by
 let c:=(zC t a1 c2 a4 c5)
 refine aS func26 rfl (by kernel_rfl) (by show (2:Nat)<=25;decide) ?_;unfold nN at hm
 refine aK (fJ (v:=zA (zCa t a1 c2 a4 c5)) (vs:=c) hs rfl rfl (fun z d7 l=>(aD (v:=zS none 0 0) (aG (aK (aC (dI (us:=c) cV l (i:=0) rfl rfl rfl rfl) (aC (bT (t':=1) mR rfl rfl) (aC (dC cQ l (i:=0) rfl rfl rfl) (cB (Kt:=K) (xs:=([t.I]:List Int)) (cs:=[i64 t.I]) (vs:=[(0,i64 t.I)]) cC iV rfl rfl l rfl (by kernel_rfl) rfl rfl rfl ⟨rfl,trivial⟩ (fun V b1 (b2:aJ G K (aN 2 K V 1 ([t.I]:List Int)::box z 27 c::L) b1)=>?_))))))))))
 obtain ⟨d8,Z,b3,b4,b5⟩:=aJ.lendSp b2 (zR _) .head
 obtain ⟨b6,b7,hm⟩:=aB hm
 refine aR (vs:=[zA (zCa t a1 c2 a4 c5),zS V ([t.I]:List Int).length 1]) call70 rfl (oS b7 b4 (q.mono Z) (r.mono Z) b3) ?_
 rintro _ d9 ⟨a0,a2,rfl,b8⟩
 have b9:=b5 _ _ b8
 refine aD (v:=zS a0 b6.length a2) (aG (aO (aK (aF (v:=zS a7 b.length c8) (aC (bO (len:=b.length) bX rfl) (aF (v:=i64 0) (aG (aW [] (fun f w=>∃ d e g,rZ d=some R/\f 5=zS e d.length g/\aJ G K (aN 2 K e g d::L) w) ?_ ?_))))))))
 ·rintro f e0 ⟨d,e,g,hm,c0,c1⟩
  unfold rZ at hm
  refine aA (aK (aY c0 (aD (v:=zS e d.length g) (aG ?_))));obtain rfl:=zI hm
  exact bH (bI results26 rfl ⟨e,g,rfl,c1⟩)
 obtain ⟨e1,c4,ho⟩:=aB hm
 refine cJ [2,13,14] c4 (fun a m f w=>∃ h j,f 5=zS h a.length j/\f 15=i64 m/\aJ G K (aN 2 K h j a::box z 27 c::L) w) ?_ ?_
 ·exact ⟨a0,a2,rfl,rfl,(aJ.arr 1 [] b9 rfl)⟩
 ·rintro a m e2 f e3 hm hr ⟨h,j,a3,n,k⟩
  unfold aCq at hm
  refine aK (aC (cG n rfl) (aG (aO ?_)))
  rcases aH hm with ⟨o,hm⟩|⟨o,hm⟩
  ·refine aL o rfl (aU (aA (aO (cN (aK ?_)))));obtain ⟨p,a5,hm⟩:=aB hm
   refine aC (cT bX rfl u rfl rfl n a5) ?_;obtain ⟨e4,c6,c7⟩:=cF.el (sz:=1) rfl u a5
   cases c7
   refine aC (bG (t:=0) lF k c6 rfl rfl) (aD (v:=str p) (aG (aP (aC (dI (us:=c) cV k (i:=1) rfl rfl rfl rfl) (aY a3 (aF (v:=str p) ?_))))));obtain ⟨e5,a6,c9,d0,d1⟩:=aJ.lendSp k (zR _) .head
   obtain ⟨d2,d3,hm⟩:=aB hm
   refine aR (vs:=[zA (zCa t a1 c2 a4 c5),zS h a.length j,str p]) call71 rfl (yJ d3 d0 (q.mono a6) (r.mono a6) c9) ?_
   rintro _ e6 ⟨a8,a9,rfl,d4⟩
   have d5:=d1 _ _ d4
   exact aD (v:=zS a8 d2.length a9) (bB (aX (aA (aP (aC (cE n rfl) (aF (v:=i64 (wr (m+1))) (aG ⟨_,(zI hm).symm,aM,a8,a9,rfl,rfl,(aJ.arr 1 [] d5 rfl)⟩)))))))
  ·refine aI o rfl (bV (aT (aT ?_)))
   have d6:=hr _ (zI hm).symm
   subst d6
   have hm:(rZ a)=some R:=ho
   clear hr ho
   exact bJ (aA ⟨aM,a,h,j,hm,a3,(aJ.arr 2 [0] k rfl)⟩)
theorem lN {a R:(List Edge)} (hm:fR a=some R) (hs:aJ G K (aN 66 K a1 c2 a::L) w):
  Calls prog 112 ([zS a1 a.length c2]:List Value).toArray w (eH fun v w'=>∃ c4 c5,v=zS c4 R.length c5/\aJ G K (aN 66 K c4 c5 R::L) w'):=by
 refine aS func112 rfl (by kernel_rfl) (by show (1:Nat)<=61;decide) ?_;unfold fR at hm
 refine aK (aD (v:=zS none 0 0) (aG (aO (aK (aF (v:=zS a1 a.length c2) (aC (bO (len:=a.length) cL rfl) (aC (cG rfl rfl) (aG ?_))))))))
 rcases aH hm with ⟨c3,hm⟩|⟨c3,hm⟩
 ·refine aL c3 rfl (aK (aF (v:=zS a1 a.length c2) (aD (v:=zS a1 a.length c2) (aG ?_))));obtain rfl:=zI hm
  exact bH (aQ (bI results112 rfl ⟨a1,c2,rfl,hs⟩))
 ·refine aI c3 rfl (aU (aA (aO (aK (aD (v:=i64 1) (aG (aW [0] (fun f w=>dU a=some R/\aJ G K (aN 66 K a1 c2 a::L) w) ?_ ?_)))))))
  ·rintro f w5 ⟨hm,e3⟩
   unfold dU at hm
   refine aA (aK (aF (v:=zS a1 a.length c2) (aD (v:=zS a1 a.length c2) (aG ?_))));obtain rfl:=zI hm
   exact bH (bI results112 rfl ⟨a1,c2,rfl,e3⟩)
  obtain ⟨g6,e5,ho⟩:=aB hm
  refine dM [0] e5 (fun j f w=>f 3=i64 j/\aJ G K (aN 66 K a1 c2 a::L) w) ?_ ?_
  ·exact ⟨rfl,hs⟩
  ·rintro j a9 f g7 hm hr ⟨k,b⟩
   unfold iG at hm
   refine aO (aK (aY k (aF (v:=zS a1 a.length c2) (aC (bO (len:=a.length) cL rfl) (aC (cG rfl rfl) (aG ?_))))))
   rcases aH hm with ⟨b0,hm⟩|⟨b0,hm⟩
   ·refine aL b0 rfl (aU (aA (aO (aW [0] (fun f w=>fG j=some a9/\f 3=i64 j/\aJ G K (aN 66 K a1 c2 a::L) w) ?_ ?_))))
    ·rintro f g8 ⟨hm,e6,e7⟩
     unfold fG at hm
     exact aA (aP (aY e6 (aC (cE rfl rfl) (aD (v:=i64 (wr (j+1))) (aG ⟨_,(zI hm).symm,aM,rfl,e7⟩)))))
    refine aO (dO (C:=fun w'=>aJ G K (aN 66 K a1 c2 a::L) w') bY (by kernel_rfl) (aJ.mono b (dK.drew _)) (bD (fun _ b=>bA (v:=zS a1 a.length c2) rfl) (bD (fun _ b=>bA k) ?_)));obtain ⟨r,b1,hm⟩:=aB hm
    have l:=cX b (i:=0) rfl b1
    refine bD (fun _ b=>dD cL rfl l rfl rfl rfl b1) (bD (fun _ b=>aAh (t:=0) (vs:=[i64 r.F,i64 r.B,i64 r.To]) kD b (i:=0) rfl b1 rfl rfl rfl rfl) (bD (fun _ b=>bA (v:=zS a1 a.length c2) rfl) (bD (fun _ b=>bA k) (bD (fun _ b=>iK rfl rfl) ?_))));obtain ⟨u,c6,hm⟩:=aB hm
    refine bD (fun _ b=>dD cL rfl l rfl rfl rfl c6) (bD (fun _ b=>aAh (t:=0) (vs:=[i64 u.F,i64 u.B,i64 u.To]) kD b (i:=0) rfl c6 rfl rfl rfl rfl) (bD (fun _ b=>R_eqlG (eq_66 (x:=r) (y:=u)) rfl rfl) (dS (fun g9 b2=>(aA ?_)))))
    rcases aH hm with ⟨b3,hm⟩|⟨b3,hm⟩
    ·refine aL b3 rfl (aK (aF (v:=zS a1 a.length c2) (aY k ?_)));obtain ⟨m,z,hm⟩:=aB hm
     have V:=kO b2 (i:=0) rfl
     obtain ⟨o,p,Z⟩:=Cut.ex 3 a1 c2 j
     refine aC (qF cL V Z rfl rfl rfl z) (aD (v:=zS o m.length p) (aG (aO (aK (aD (v:=i64 1) (aG (aW [] (fun f w=>∃ a0 a2,dV a0 a2=some a9/\f 0=zS a1 a0.length c2/\f 3=i64 a2/\aJ G K (aN 66 K a1 c2 a0::L) w) ?_ ?_)))))))
     ·rintro f h0 ⟨a0,a2,hm,c7,c8,c9⟩
      unfold dV at hm
      refine aA (aK (aY c7 (aY c8 ?_)));obtain ⟨h1,e8,hm⟩:=aB hm
      have e9:=kO c9 (i:=0) rfl
      obtain ⟨h2,h3,d0⟩:=Cut.ex 3 a1 c2 a2
      refine aC (qF cL e9 d0 rfl rfl rfl e8) ?_;obtain ⟨d1,d2,hm⟩:=aB hm
      refine xK cL gC rfl c9 (i:=0) rfl d0 rfl rfl d2 (fun d3 (d4:aJ G K (aN 66 K a1 c2 d1::L) d3)=>(aG (aK (aY (v:=zS a1 d1.length c2) (Eq.trans c7 (congrArg (fun n=>zS a1 n c2) (aCM d2))) (aY c8 ?_)))));obtain ⟨b4,d5,hm⟩:=aB hm
      have f0:=kO d4 (i:=0) rfl
      obtain ⟨b5,b6,d6⟩:=Cut.ex 3 a1 c2 0
      refine aC (aDS cL f0 d6 rfl rfl rfl d5) (aD (v:=zS b5 b4.length b6) (aG (bH (bM (aQ (aQ (aQ ?_)))))))
      have f1:=hr _ (zI hm).symm
      subst f1
      have hm:(some b4)=some R:=ho
      clear hr ho
      have f2:aJ G K (aN 66 K b5 b6 b4::L) d3:=aJ.cutP d4 (i:=0) rfl d5 d6
      obtain rfl:=zI hm
      exact bM (aQ (aQ (bI results112 rfl ⟨b5,b6,rfl,f2⟩)))
     obtain ⟨h4,f4,ho⟩:=aB hm
     refine jO [4] f4 (fun e g a3 f w=>f 0=zS a1 e.length c2/\f 3=i64 g/\f 5=i64 a3/\aJ G K (aN 66 K a1 c2 e::L) w) ?_ ?_
     ·exact ⟨rfl,k,rfl,b2⟩
     ·rintro e g a3 f5 f h5 hm hr ⟨a4,a5,q,c⟩
      unfold iF at hm
      refine aO (aK (aY q (aF (v:=zS o m.length p) (aC (bO (len:=m.length) cL rfl) (aC (cG rfl rfl) (aG ?_))))))
      rcases aH hm with ⟨b7,hm⟩|⟨b7,hm⟩
      ·refine aL b7 rfl (aU (aA (aO (aW [4,5] (fun f w=>∃ a6 b8,dW a3 a6 b8=some f5/\f 0=zS a1 a6.length c2/\f 3=i64 b8/\aJ G K (aN 66 K a1 c2 a6::L) w) ?_ ?_))))
       ·rintro f h6 ⟨a6,b8,hm,f6,f7,f8⟩
        unfold dW at hm
        exact aA (aP (aY q (aC (cE rfl rfl) (aD (v:=i64 (wr (a3+1))) (aG ⟨_,(zI hm).symm,aM,f6,f7,rfl,f8⟩)))))
       refine aO (dO (C:=fun w'=>aJ G K (aN 66 K a1 c2 e::L) w') bY (by kernel_rfl) (aJ.mono c (dK.drew _)) (bD (fun _ c=>bA (v:=zS o m.length p) rfl) (bD (fun _ c=>bA q) ?_)));obtain ⟨h7,d7,hm⟩:=aB hm
       obtain ⟨d,d8,hm⟩:=aB hm
       refine bD (fun _ c=>aBr cL l Z z V rfl rfl rfl d7 rfl) (bD (fun _ c=>aAh (t:=0) (vs:=[i64 d.F,i64 d.B,i64 d.To]) kD c (i:=0) rfl d8 rfl rfl rfl rfl) (bD (fun _ c=>bA (v:=zS o m.length p) rfl) (bD (fun _ c=>bA q) (bD (fun _ c=>iK rfl rfl) ?_))));obtain ⟨h8,f9,hm⟩:=aB hm
       obtain ⟨a7,g0,hm⟩:=aB hm
       refine bD (fun _ c=>aBr cL l Z z V rfl rfl rfl f9 rfl) (bD (fun _ c=>aAh (t:=0) (vs:=[i64 a7.F,i64 a7.B,i64 a7.To]) kD c (i:=0) rfl g0 rfl rfl rfl rfl) (bD (fun _ c=>R_neqG (eq_66 (x:=d) (y:=a7)) rfl rfl) (dS (fun h9 b9=>(aA ?_)))))
       rcases aH hm with ⟨c0,hm⟩|⟨c0,hm⟩
       ·refine aL c0 rfl (aK (aY a4 (aY a5 (aF (v:=zS o m.length p) (aY q (aC (aBr cL l Z z V rfl rfl rfl d7 rfl) (aC (aAh (t:=0) (vs:=[i64 d.F,i64 d.B,i64 d.To]) kD b9 (i:=0) rfl d8 rfl rfl rfl rfl) ?_)))))));obtain ⟨i0,d9,hm⟩:=aB hm
        refine aC (dD cL rfl l rfl rfl rfl d9) ?_;obtain ⟨e0,e1,hm⟩:=aB hm
        exact jL (i:=0) (t:=0) (ns:=[i64 d.F,i64 d.B,i64 d.To]) (e':=(⟨d.F,d.B,d.To⟩:Edge)) sizeOf66 b9 rfl (zR _) rfl rfl rfl d9 e1 rfl rfl (cY rfl) rfl (fun cs h=>by cases h;rfl) (fun g1 (g2:aJ G K (aN 66 K a1 c2 e0::L) g1)=>(aG (aP (aY a5 (aC (cE rfl rfl) (aD (v:=i64 (wr (g+1))) (bB (aX (aA ⟨aM,e0,wr (g+1),hm,(Eq.trans a4 (congrArg (fun n=>zS a1 n c2) (iM e1))),rfl,g2⟩)))))))))
       ·exact aI c0 rfl (aU (aX (aA ⟨aM,e,g,hm,a4,a5,b9⟩)))
      ·refine aI b7 rfl (bV (aT (aT ?_)))
       have g3:=hr _ (zI hm).symm
       subst g3
       have hm:(dV e g)=some a9:=ho
       clear hr ho
       exact bJ (aA ⟨aM,e,g,hm,a4,a5,c⟩)
    ·exact aI b3 rfl (aU (aX (aA ⟨aM,hm,k,b2⟩)))
   ·refine aI b0 rfl (bV (aT (aT ?_)))
    have g4:=hr _ (zI hm).symm
    subst g4
    have hm:(dU a)=some R:=ho
    clear hr ho
    exact bJ (aA ⟨aM,hm,b⟩)
theorem jD {a R:(List aZ)} (hm:fM a=some R) (hs:aJ G K (aN 9 K a1 c2 a::L) w):
  Calls prog 109 ([zS a1 a.length c2]:List Value).toArray w (eH fun v w'=>∃ b6 b7,v=zS b6 R.length b7/\aJ G K (aN 9 K b6 b7 R::L) w'):=by
 refine aS func109 rfl (by kernel_rfl) (by show (1:Nat)<=61;decide) ?_;unfold fM at hm
 refine aK (aD (v:=zS none 0 0) (aG (aO (aK (aF (v:=zS a1 a.length c2) (aC (bO (len:=a.length) bX rfl) (aC (cG rfl rfl) (aG ?_))))))))
 rcases aH hm with ⟨c3,hm⟩|⟨c3,hm⟩
 ·refine aL c3 rfl (aK (aF (v:=zS a1 a.length c2) (aD (v:=zS a1 a.length c2) (aG ?_))));obtain rfl:=zI hm
  exact bH (aQ (bI results109 rfl ⟨a1,c2,rfl,hs⟩))
 ·refine aI c3 rfl (aU (aA (aO (aK (aD (v:=i64 1) (aG (aW [0] (fun f w=>eO a=some R/\aJ G K (aN 9 K a1 c2 a::L) w) ?_ ?_)))))))
  ·rintro f w5 ⟨hm,d8⟩
   unfold eO at hm
   refine aA (aK (aF (v:=zS a1 a.length c2) (aD (v:=zS a1 a.length c2) (aG ?_))));obtain rfl:=zI hm
   exact bH (bI results109 rfl ⟨a1,c2,rfl,d8⟩)
  obtain ⟨g1,e0,ho⟩:=aB hm
  refine dM [0] e0 (fun g f w=>f 3=i64 g/\aJ G K (aN 9 K a1 c2 a::L) w) ?_ ?_
  ·exact ⟨rfl,hs⟩
  ·rintro g a3 f g2 hm hr ⟨j,b⟩
   unfold jS at hm
   refine aO (aK (aY j (aF (v:=zS a1 a.length c2) (aC (bO (len:=a.length) bX rfl) (aC (cG rfl rfl) (aG ?_))))))
   rcases aH hm with ⟨a4,hm⟩|⟨a4,hm⟩
   ·refine aL a4 rfl (aU (aA (aO (aW [0] (fun f w=>gK g=some a3/\f 3=i64 g/\aJ G K (aN 9 K a1 c2 a::L) w) ?_ ?_))))
    ·rintro f g3 ⟨hm,e1,e2⟩
     unfold gK at hm
     exact aA (aP (aY e1 (aC (cE rfl rfl) (aD (v:=i64 (wr (g+1))) (aG ⟨_,(zI hm).symm,aM,rfl,e2⟩)))))
    refine aO (dO (C:=fun w'=>aJ G K (aN 9 K a1 c2 a::L) w') bY (by kernel_rfl) (aJ.mono b (dK.drew _)) (bD (fun _ b=>bA (v:=zS a1 a.length c2) rfl) (bD (fun _ b=>bA j) ?_)));obtain ⟨g4,a5,hm⟩:=aB hm
    have k:=cX b (i:=0) rfl a5
    refine bD (fun _ b=>dD bX rfl k rfl rfl rfl a5) (bD (fun _ b=>gX (t:=0) lF b (i:=0) rfl a5 rfl rfl rfl) (bD (fun _ b=>bA (v:=zS a1 a.length c2) rfl) (bD (fun _ b=>bA j) (bD (fun _ b=>iK rfl rfl) ?_))));obtain ⟨g5,b8,hm⟩:=aB hm
    refine bD (fun _ b=>dD bX rfl k rfl rfl rfl b8) (bD (fun _ b=>gX (t:=0) lF b (i:=0) rfl b8 rfl rfl rfl) (bD (fun _ b=>sY rfl rfl) (dS (fun g6 a6=>(aA ?_)))))
    rcases aH hm with ⟨a7,hm⟩|⟨a7,hm⟩
    ·refine aL a7 rfl (aK (aF (v:=zS a1 a.length c2) (aY j ?_)));obtain ⟨l,q,hm⟩:=aB hm
     have r:=kO a6 (i:=0) rfl
     obtain ⟨m,o,u⟩:=Cut.ex 1 a1 c2 g
     refine aC (qF bX r u rfl rfl rfl q) (aD (v:=zS m l.length o) (aG (aO (aK (aD (v:=i64 1) (aG (aW [] (fun f w=>∃ x y,eP x y=some a3/\f 0=zS a1 x.length c2/\f 3=i64 y/\aJ G K (aN 9 K a1 c2 x::L) w) ?_ ?_)))))))
     ·rintro f g7 ⟨x,y,hm,b9,c0,c1⟩
      unfold eP at hm
      refine aA (aK (aY b9 (aY c0 ?_)));obtain ⟨g8,e3,hm⟩:=aB hm
      have e4:=kO c1 (i:=0) rfl
      obtain ⟨g9,h0,c4⟩:=Cut.ex 1 a1 c2 y
      refine aC (qF bX e4 c4 rfl rfl rfl e3) ?_;obtain ⟨c5,c6,hm⟩:=aB hm
      refine xK bX iA rfl c1 (i:=0) rfl c4 rfl rfl c6 (fun c7 (c8:aJ G K (aN 9 K a1 c2 c5::L) c7)=>(aG (aK (aY (v:=zS a1 c5.length c2) (Eq.trans b9 (congrArg (fun n=>zS a1 n c2) (aCM c6))) (aY c0 ?_)))));obtain ⟨a8,c9,hm⟩:=aB hm
      have e5:=kO c8 (i:=0) rfl
      obtain ⟨a9,b0,d0⟩:=Cut.ex 1 a1 c2 0
      refine aC (aDS bX e5 d0 rfl rfl rfl c9) (aD (v:=zS a9 a8.length b0) (aG (bH (bM (aQ (aQ (aQ ?_)))))))
      have e6:=hr _ (zI hm).symm
      subst e6
      have hm:(some a8)=some R:=ho
      clear hr ho
      have e7:aJ G K (aN 9 K a9 b0 a8::L) c7:=aJ.cutP c8 (i:=0) rfl c9 d0
      obtain rfl:=zI hm
      exact bM (aQ (aQ (bI results109 rfl ⟨a9,b0,rfl,e7⟩)))
     obtain ⟨h1,e9,ho⟩:=aB hm
     refine jO [4] e9 (fun d e z f w=>f 0=zS a1 d.length c2/\f 3=i64 e/\f 5=i64 z/\aJ G K (aN 9 K a1 c2 d::L) w) ?_ ?_
     ·exact ⟨rfl,j,rfl,a6⟩
     ·rintro d e z f0 f h2 hm hr ⟨V,Z,p,c⟩
      unfold jR at hm
      refine aO (aK (aY p (aF (v:=zS m l.length o) (aC (bO (len:=l.length) bX rfl) (aC (cG rfl rfl) (aG ?_))))))
      rcases aH hm with ⟨b1,hm⟩|⟨b1,hm⟩
      ·refine aL b1 rfl (aU (aA (aO (aW [4,5] (fun f w=>∃ a0 b2,eQ z a0 b2=some f0/\f 0=zS a1 a0.length c2/\f 3=i64 b2/\aJ G K (aN 9 K a1 c2 a0::L) w) ?_ ?_))))
       ·rintro f h3 ⟨a0,b2,hm,f1,f2,f3⟩
        unfold eQ at hm
        exact aA (aP (aY p (aC (cE rfl rfl) (aD (v:=i64 (wr (z+1))) (aG ⟨_,(zI hm).symm,aM,f1,f2,rfl,f3⟩)))))
       refine aO (dO (C:=fun w'=>aJ G K (aN 9 K a1 c2 d::L) w') bY (by kernel_rfl) (aJ.mono c (dK.drew _)) (bD (fun _ c=>bA (v:=zS m l.length o) rfl) (bD (fun _ c=>bA p) ?_)));obtain ⟨h4,d1,hm⟩:=aB hm
       obtain ⟨d2,d3,hm⟩:=aB hm
       refine bD (fun _ c=>aBr bX k u q r rfl rfl rfl d1 rfl) (bD (fun _ c=>gX (t:=0) lF c (i:=0) rfl d3 rfl rfl rfl) (bD (fun _ c=>bA (v:=zS m l.length o) rfl) (bD (fun _ c=>bA p) (bD (fun _ c=>iK rfl rfl) ?_))));obtain ⟨h5,f4,hm⟩:=aB hm
       obtain ⟨h6,f5,hm⟩:=aB hm
       refine bD (fun _ c=>aBr bX k u q r rfl rfl rfl f4 rfl) (bD (fun _ c=>gX (t:=0) lF c (i:=0) rfl f5 rfl rfl rfl) (bD (fun _ c=>aDN rfl rfl) (dS (fun h7 b3=>(aA ?_)))))
       rcases aH hm with ⟨b4,hm⟩|⟨b4,hm⟩
       ·refine aL b4 rfl (aK (aY V (aY Z (aF (v:=zS m l.length o) (aY p (aC (aBr bX k u q r rfl rfl rfl d1 rfl) (aC (gX (t:=0) lF b3 (i:=0) rfl d3 rfl rfl rfl) ?_)))))));obtain ⟨h8,d4,hm⟩:=aB hm
        refine aC (dD bX rfl k rfl rfl rfl d4) ?_;obtain ⟨d5,d6,hm⟩:=aB hm
        exact jL (i:=0) (t:=0) (ns:=[str d2]) (e':=(d2:aZ)) sizeOf9 b3 rfl (zR _) rfl rfl rfl d4 d6 rfl rfl (cY rfl) rfl (fun cs h=>by cases h;rfl) (fun f6 (f7:aJ G K (aN 9 K a1 c2 d5::L) f6)=>(aG (aP (aY Z (aC (cE rfl rfl) (aD (v:=i64 (wr (e+1))) (bB (aX (aA ⟨aM,d5,wr (e+1),hm,(Eq.trans V (congrArg (fun n=>zS a1 n c2) (iM d6))),rfl,f7⟩)))))))))
       ·exact aI b4 rfl (aU (aX (aA ⟨aM,d,e,hm,V,Z,b3⟩)))
      ·refine aI b1 rfl (bV (aT (aT ?_)))
       have f8:=hr _ (zI hm).symm
       subst f8
       have hm:(eP d e)=some a3:=ho
       clear hr ho
       exact bJ (aA ⟨aM,d,e,hm,V,Z,c⟩)
    ·exact aI a7 rfl (aU (aX (aA ⟨aM,hm,j,a6⟩)))
   ·refine aI a4 rfl (bV (aT (aT ?_)))
    have f9:=hr _ (zI hm).symm
    subst f9
    have hm:(eO a)=some R:=ho
    clear hr ho
    exact bJ (aA ⟨aM,hm,b⟩)
theorem tE {d e:Int} {labels:(List aZ)} {arcs:(List oT)} {R:cI} (hm:aHO d e labels arcs=some R) (hs:aJ G K (L) w) (h3:cF K a1 c2 labels) (h6:cF K a4 c5 arcs):
  Calls prog 56 ([i64 d,i64 e,zS a1 labels.length c2,zS a4 arcs.length c5]:List Value).toArray w (eH fun v w'=>∃ b9 c0 c1 c3,v=zA (zCa R b9 c0 c1 c3)/\aJ G K (aN 9 K b9 c0 R.L::aN 66 K c1 c3 R.E::L) w'):=by
 let j:=zG
 refine aS func56 rfl (by kernel_rfl) (by show (4:Nat)<=55;decide) ?_;unfold aHO at hm
 refine aK (bZ (vs:=j) zeroValue27 hs rfl (fun k w8 e1=>(aG (aK (aF (v:=i64 d) (aF (v:=i64 e) (cB (Kt:=K) (xs:=([([116,97,117]:aZ)]:List aZ)) (cs:=[str ([116,97,117]:aZ)]) (vs:=[(0,str ([116,97,117]:aZ))]) bX iA rfl rfl e1 rfl (by kernel_rfl) rfl rfl rfl ⟨rfl,trivial⟩ (fun e2 e3 (e4:aJ G K (aN 9 K e2 1 ([([116,97,117]:aZ)]:List aZ)::box k 27 j::L) e3)=>(aF (v:=zS a1 labels.length c2) ?_)))))))));obtain ⟨u,e5,hm⟩:=aB hm
 refine kP (i:=0) bX underlying24 iA rfl rfl e4 rfl (zR _) h3 e5 rfl rfl rfl rfl (fun l m e6 (e7:aJ G K (aN 9 K l m u::box k 27 j::L) e6)=>(aC (dF (vs:=[(0,i64 d),(1,i64 e),(2,zS l u.length m)]) (cs:=[i64 d,i64 e,zS l u.length m,zS none 0 0]) mQ rfl (by kernel_rfl)) (bZ (vs:=j) zeroValue27 e7 rfl (fun p j5 e8=>(cA (i:=0) (ns:=[i64 d,i64 e,zS l u.length m,zS none 0 0]) (us:=[i64 d,i64 e,zS l u.length m,zS none 0 0]) sizeOf27 e8 rfl rfl rfl rfl rfl (cY rfl) rfl rfl (fun c4 (c6:aJ G K (box p 27 [i64 d,i64 e,zS l u.length m,zS none 0 0]::aN 9 K l m u::box k 27 j::L) c4)=>(aG (aK (aC (bT (t':=2) eU rfl rfl) (aC (dC eR c6 (i:=0) rfl rfl rfl) ?_))))))))))
 have e9:aJ G K (aN 9 K l m u::box p 27 [i64 d,i64 e,zS l u.length m,zS none 0 0]::box k 27 j::L) c4:=(aJ.arr 2 [1,0] c6 rfl)
 obtain ⟨a8,f0,hm⟩:=aB hm
 refine aR (vs:=[zS l u.length m,Value.func (.func 108) #[] #[]]) call107 rfl (lib_SortStr e9 f0) ?_
 rintro _ f1 ⟨rfl,f2,f3⟩
 have c7:aJ G K (aN 9 K l m a8::box p 27 [i64 d,i64 e,zS l a8.length m,zS none 0 0]::box k 27 j::L) f1:=by rw [←f2];exact f3
 refine aG (aK (aC (bT (t':=2) eU rfl rfl) (aC (dC eR c7 (i:=1) rfl rfl rfl) ?_)));obtain ⟨a,f4,hm⟩:=aB hm
 refine aR (vs:=[zS l a8.length m]) call109 rfl (jD f4 c7) ?_
 rintro _ j6 ⟨b,c,rfl,f5⟩
 refine aC (bT (t':=2) eU rfl rfl) (cA (i:=1) (ns:=[zS b a.length c]) (us:=[i64 d,i64 e,zS b a.length c,zS none 0 0]) sizeOf24 f5 rfl rfl rfl rfl rfl (cY rfl) rfl rfl (fun f6 (f7:aJ G K (aN 9 K b c a::box p 27 [i64 d,i64 e,zS b a.length c,zS none 0 0]::box k 27 j::L) f6)=>(aG (aO (aK (aF (v:=zS a4 arcs.length c5) (aC (bO (len:=arcs.length) vJ rfl) (aF (v:=i64 0) (aG (aW [8,9] (fun f w=>∃ a6 y z,aEV d e a a6=some R/\aJ G K (aN 66 K y z a6::aN 9 K b c a::box p 27 [i64 d,i64 e,zS b a.length c,zS y a6.length z]::box k 27 j::L) w) ?_ ?_))))))))))
 ·rintro f j7 ⟨a6,y,z,hm,c8⟩
  unfold aEV at hm
  refine aA (aK (aC (bT (t':=3) cU rfl rfl) (aC (dC eS c8 (i:=2) rfl rfl rfl) ?_)));obtain ⟨a9,f8,hm⟩:=aB hm
  refine aR (vs:=[zS y a6.length z,Value.func (.func 51) #[] #[]]) call111 rfl (lib_SortEdge c8 f8) ?_
  rintro _ f9 ⟨rfl,g0,g1⟩
  have c9:aJ G K (aN 66 K y z a9::aN 9 K b c a::box p 27 [i64 d,i64 e,zS b a.length c,zS y a9.length z]::box k 27 j::L) f9:=by rw [←g0];exact g1
  refine aG (aK (aC (bT (t':=3) cU rfl rfl) (aC (dC eS c9 (i:=2) rfl rfl rfl) ?_)));obtain ⟨q,g2,hm⟩:=aB hm
  refine aR (vs:=[zS y a9.length z]) call112 rfl (lN g2 c9) ?_
  rintro _ j8 ⟨n,o,rfl,g3⟩
  refine aC (bT (t':=3) cU rfl rfl) (cA (i:=2) (ns:=[zS n q.length o]) (us:=[i64 d,i64 e,zS b a.length c,zS n q.length o]) sizeOf25 g3 rfl rfl rfl rfl rfl (cY rfl) rfl rfl (fun g4 (d0:aJ G K (aN 66 K n o q::aN 9 K b c a::box p 27 [i64 d,i64 e,zS b a.length c,zS n q.length o]::box k 27 j::L) g4)=>(aG (aK (aC (dI (us:=[i64 d,i64 e,zS b a.length c,zS n q.length o]) cV d0 (i:=2) rfl rfl rfl rfl) (cA (i:=3) (ns:=[i64 d,i64 e,zS b a.length c,zS n q.length o]) (us:=[i64 d,i64 e,zS b a.length c,zS n q.length o]) sizeOf27 d0 rfl rfl rfl rfl rfl (cY rfl) rfl rfl (fun g5 (d1:aJ G K (aN 66 K n o q::aN 9 K b c a::box p 27 [i64 d,i64 e,zS b a.length c,zS n q.length o]::box k 27 [i64 d,i64 e,zS b a.length c,zS n q.length o]::L) g5)=>(aG ?_))))))))
  obtain rfl:=zI hm
  exact bH (pD results56 (fK (vs:=[i64 d,i64 e,zS b a.length c,zS n q.length o]) rfl cV d1 (i:=3) rfl rfl rfl) ⟨b,c,n,o,rfl,(aJ.arr 4 [1,0] d1 rfl)⟩)
 have g7:=aJ.nil (α:=Edge) f7 66 K
 obtain ⟨j9,g8,ho⟩:=aB hm
 refine cJ [8,9,25,26] g8 (fun x b0 f w=>∃ V Z,f 27=i64 b0/\aJ G K (aN 66 K V Z x::aN 9 K b c a::box p 27 [i64 d,i64 e,zS b a.length c,zS V x.length Z]::box k 27 j::L) w) ?_ ?_
 ·exact ⟨none,0,rfl,g7⟩
 ·rintro x b0 k0 f k1 hm hr ⟨V,Z,b1,b2⟩
  unfold aII at hm
  refine aK (aC (cG b1 rfl) (aG (aO ?_)))
  rcases aH hm with ⟨b3,hm⟩|⟨b3,hm⟩
  ·refine aL b3 rfl (aU (aA (aO (cN (aK ?_)))));obtain ⟨g,d2,hm⟩:=aB hm
   refine aC (cT vJ rfl h6 rfl rfl b1 d2) ?_;obtain ⟨k2,g9,h0⟩:=cF.el (sz:=3) rfl h6 d2
   cases h0
   refine aC (eI (t:=0) (vs:=[i64 g.from_,str g.label,i64 g.to_]) ag_141 b2 g9 rfl rfl rfl) (bZ (vs:=[i64 0,str ([]:aZ),i64 0]) zeroValue141 b2 rfl (fun d3 k3 h1=>(cA (i:=0) (ns:=[i64 g.from_,str g.label,i64 g.to_]) (us:=[i64 g.from_,str g.label,i64 g.to_]) sizeOf141 h1 rfl rfl rfl rfl rfl (cY rfl) rfl rfl (fun h2 (h4:aJ G K (box d3 141 [i64 g.from_,str g.label,i64 g.to_]::aN 66 K V Z x::aN 9 K b c a::box p 27 [i64 d,i64 e,zS b a.length c,zS V x.length Z]::box k 27 j::L) h2)=>(aG ?_)))))
   obtain ⟨k4,b4,b5,h5,h7⟩:=aJ.lendBp h4 .head
   obtain ⟨b6,a0,d4,d5,h8⟩:=aJ.lendBp h5 zt2
   refine dT (C:=fun w'=>∃ L',aJ G b6 L' w') [(0,0),(1,0),(2,0),(3,0),(4,0),(5,0),(6,0),(7,0),(9,0),(10,0),(8,1),(11,0),(12,1),(13,1),(14,0),(15,2)] bY (by kernel_rfl) (fun _ hg=>⟨_,aJ.mono d5 hg⟩) (fun k5 h9=>?_)
   have r:=aJ.mono d5 h9
   refine bQ rfl (fun _ _=>bT (t':=3) cU rfl rfl) (bQ rfl (fun _ ⟨_,r⟩=>bG (t:=3) eS r d4 rfl rfl) (bQ rfl (fun _ _=>bT (t':=0) aRn rfl rfl) (bQ rfl (fun _ ⟨_,r⟩=>bG (t:=0) cQ r (b5.mono a0) rfl rfl) (bQ rfl (fun _ _=>bT (t':=2) eU rfl rfl) (bQ rfl (fun _ ⟨_,r⟩=>bG (t:=2) eR r d4 rfl rfl) (bQ rfl (fun _ _=>bT (t':=1) aIG rfl rfl) (bQ rfl (fun _ ⟨_,r⟩=>bG (t:=1) lF r (b5.mono a0) rfl rfl) (bQ rfl (fun _ _=>bT (t':=2) aRo rfl rfl) (bQ rfl (fun _ ⟨_,r⟩=>bG (t:=2) cQ r (b5.mono a0) rfl rfl) (jE rfl ?_))))))))))
   obtain ⟨k6,k7,i0,i1,i2⟩:=aJ.lendSp r (zL b4 a0) zt1
   obtain ⟨a2,i3,hm⟩:=aB hm
   refine aR (vs:=[zS b a.length c,str g.label]) call110 rfl (jU i3 i1 i0) ?_
   rintro _ k8 ⟨rfl,i4⟩
   have d6:=i2 _ _ i4
   refine bB (aA ⟨⟨_,d6⟩,?_⟩)
   refine bQ rfl (fun _ _=>dF (vs:=[(0,i64 g.from_),(1,i64 a2),(2,i64 g.to_)]) (cs:=[i64 g.from_,i64 a2,i64 g.to_]) aDl rfl (by kernel_rfl)) (jE rfl (cB (Kt:=K) (xs:=([⟨g.from_,a2,g.to_⟩]:List Edge)) (cs:=[i64 g.from_,i64 a2,i64 g.to_]) (vs:=[(0,zA #[i64 g.from_,i64 a2,i64 g.to_])]) cL gC rfl rfl d6 rfl (by kernel_rfl) rfl rfl rfl ⟨rfl,trivial⟩ (fun i5 i6 (d7:aJ G b6 (aN 66 K i5 1 ([⟨g.from_,a2,g.to_⟩]:List Edge)::aN 9 K b c a::aN 66 K V Z x::box k 27 j::L) i6)=>(bB (aA ⟨⟨_,d7⟩,?_⟩)))))
   refine jE rfl ?_;obtain ⟨a7,i7,hm⟩:=aB hm
   refine dG (i:=1) cL underlying25 gC rfl rfl d7 rfl (zL b4 a0) (zL b4 a0) i7 rfl rfl rfl rfl (fun _ h=>h) (fun a3 a5 i8 (d8:aJ G b6 (aN 9 K b c a::aN 66 K a3 a5 a7::box k 27 j::L) i8)=>(bB (aA ⟨⟨_,d8⟩,?_⟩)))
   refine bQ rfl (fun _ _=>bT (t':=3) cU rfl rfl) ?_
   have i9:=h8 _ _ d8
   have j0:=h7 _ _ i9
   exact aGh rfl (cA (i:=1) (ns:=[zS a3 a7.length a5]) (us:=[i64 d,i64 e,zS b a.length c,zS a3 a7.length a5]) sizeOf25 j0 rfl rfl rfl rfl rfl (cY rfl) rfl rfl (fun j1 (j2:aJ G K (box d3 141 [i64 g.from_,str g.label,i64 g.to_]::box p 27 [i64 d,i64 e,zS b a.length c,zS a3 a7.length a5]::aN 9 K b c a::aN 66 K a3 a5 a7::box k 27 j::L) j1)=>(aG (iO (aX (aA (aP (aC (cE b1 rfl) (aF (v:=i64 (wr (b0+1))) (aG ⟨_,(zI hm).symm,aM,a3,a5,rfl,(aJ.arr 4 [3,2,1] j2 rfl)⟩))))))))))
  ·refine aI b3 rfl (bV (aT (aT ?_)))
   have j3:=hr _ (zI hm).symm
   subst j3
   have hm:(aEV d e a x)=some R:=ho
   clear hr ho
   exact bJ (aA ⟨aM,x,V,Z,hm,b2⟩)
theorem aBG {arcs:(List oT)} {R:(List aZ)} (hm:aEb arcs=some R) (hs:aJ G K (L) w) (r:cF K a1 c2 arcs):
  Calls prog 147 ([zS a1 arcs.length c2]:List Value).toArray w (eH fun v w'=>∃ u x,v=zS u R.length x/\aJ G K (aN 9 K u x R::L) w'):=by
 refine aS func147 rfl (by kernel_rfl) (by show (1:Nat)<=19;decide) ?_;unfold aEb at hm
 refine aK (aD (v:=zS none 0 0) (aG (aK (aD (v:=zS none 0 0) (aG (aO (aK (aF (v:=zS a1 arcs.length c2) (aC (bO (len:=arcs.length) vJ rfl) (aF (v:=i64 0) (aG (aW [] (fun f w=>∃ e g j,uJ e=some R/\f 3=zS g e.length j/\aJ G K (aN 9 K g j e::L) w) ?_ ?_))))))))))))
 ·rintro f w8 ⟨e,g,j,hm,e7,a3⟩
  unfold uJ at hm
  refine aA (aK (aY e7 (aD (v:=zS g e.length j) (aG ?_))));obtain rfl:=zI hm
  exact bH (bI results147 rfl ⟨g,j,rfl,a3⟩)
 have a6:=aJ.nil (α:=aZ) hs 9 K
 obtain ⟨c0,a7,ho⟩:=aB hm
 refine cJ [6,7] a7 (fun b k f w=>∃ c d,f 3=zS c b.length d/\f 8=i64 k/\aJ G K (aN 9 K c d b::L) w) ?_ ?_
 ·exact ⟨none,0,rfl,rfl,a6⟩
 ·rintro b k c1 f c3 hm hr ⟨c,d,y,l,m⟩
  unfold aDB at hm
  refine aK (aC (cG l rfl) (aG (aO ?_)))
  rcases aH hm with ⟨n,hm⟩|⟨n,hm⟩
  ·refine aL n rfl (aU (aA (aO (cN (aK ?_)))));obtain ⟨a,z,hm⟩:=aB hm
   refine aC (cT vJ rfl r rfl rfl l z) ?_;obtain ⟨c4,a8,a9⟩:=cF.el (sz:=3) rfl r z
   cases a9
   refine aC (eI (t:=0) (vs:=[i64 a.from_,str a.label,i64 a.to_]) ag_141 m a8 rfl rfl rfl) (bZ (vs:=[i64 0,str ([]:aZ),i64 0]) zeroValue141 m rfl (fun o c5 b0=>(cA (i:=0) (ns:=[i64 a.from_,str a.label,i64 a.to_]) (us:=[i64 a.from_,str a.label,i64 a.to_]) sizeOf141 b0 rfl rfl rfl rfl rfl (cY rfl) rfl rfl (fun b1 (V:aJ G K (box o 141 [i64 a.from_,str a.label,i64 a.to_]::aN 9 K c d b::L) b1)=>(aG (aP (aY y (aC (bT (t':=1) aIG rfl rfl) (aC (dC lF V (i:=0) rfl rfl rfl) (cB (Kt:=K) (xs:=([a.label]:List aZ)) (cs:=[str a.label]) (vs:=[(0,str a.label)]) bX iA rfl rfl V rfl (by kernel_rfl) rfl rfl rfl ⟨rfl,trivial⟩ (fun b2 b3 (b4:aJ G K (aN 9 K b2 1 ([a.label]:List aZ)::box o 141 [i64 a.from_,str a.label,i64 a.to_]::aN 9 K c d b::L) b3)=>?_)))))))))))
   obtain ⟨Z,b5,hm⟩:=aB hm
   exact dG (i:=1) bX underlying24 iA rfl rfl b4 rfl (zR _) (zR _) b5 rfl rfl rfl rfl (fun _ h=>h) (fun p q b6 (b7:aJ G K (box o 141 [i64 a.from_,str a.label,i64 a.to_]::aN 9 K p q Z::L) b6)=>(aD (v:=zS p Z.length q) (bB (aX (aA (aP (aC (cE l rfl) (aF (v:=i64 (wr (k+1))) (aG ⟨_,(zI hm).symm,aM,p,q,rfl,rfl,(aJ.arr 1 [] b7 rfl)⟩)))))))))
  ·refine aI n rfl (bV (aT (aT ?_)))
   have b8:=hr _ (zI hm).symm
   subst b8
   have hm:(uJ b)=some R:=ho
   clear hr ho
   exact bJ (aA ⟨aM,b,c,d,hm,y,m⟩)
theorem yM {a:(List Int)} {R:aZ} (hm:nO a=some R) (b:aJ G K (L) w) (c:G.lo=0) (d:cF K a1 c2 a):
  Calls prog 101 ([zS a1 a.length c2]:List Value).toArray w (eH fun v w'=>v=str R/\aJ G K (L) w'):=by
 refine aS func101 rfl (by kernel_rfl) (by show (1:Nat)<=5;decide) ?_;unfold nO at hm
 refine aK (aD (v:=str ([]:aZ)) (aG (aK (aF (v:=zS a1 a.length c2) ?_))));obtain ⟨e,g,hm⟩:=aB hm
 refine aR (vs:=[zS a1 a.length c2,str ([44]:aZ)]) call102 rfl (aDI g b c d) ?_
 rintro _ j ⟨rfl,h⟩
 refine aD (v:=str e) (aG ?_);obtain rfl:=zI hm
 exact bH (bI results101 rfl ⟨rfl,h⟩)
theorem aGr {t:cI} {R:(List oT)} (hm:aEc t=some R) (hs:aJ G K (L) w) (Z:cF K a1 c2 t.L) (h6:cF K a4 c5 t.E):
  Calls prog 104 ([zA (zCa t a1 c2 a4 c5)]:List Value).toArray w (eH fun v w'=>∃ a2 a3,v=zS a2 R.length a3/\aJ G K (aN 141 K a2 a3 R::L) w'):=by
 let o:=(zC t a1 c2 a4 c5)
 refine aS func104 rfl (by kernel_rfl) (by show (1:Nat)<=29;decide) ?_;unfold aEc at hm
 refine aK (fJ (v:=zA (zCa t a1 c2 a4 c5)) (vs:=o) hs rfl rfl (fun b7 w8 a6=>(aD (v:=zS none 0 0) (aG (aK (aD (v:=zS none 0 0) (aG (aO (aK (aC (bT (t':=3) cU rfl rfl) (aC (dC eS a6 (i:=0) rfl rfl rfl) (aC (bO (len:=t.E.length) cL rfl) (aF (v:=i64 0) (aG (aW [] (fun f w=>∃ k l m,uK k=some R/\f 3=zS l k.length m/\aJ G K (aN 141 K l m k::L) w) ?_ ?_)))))))))))))))
 ·rintro f e4 ⟨k,l,m,hm,b5,b6⟩
  unfold uK at hm
  refine aA (aK (aY b5 (aD (v:=zS l k.length m) (aG ?_))));obtain rfl:=zI hm
  exact bH (bI results104 rfl ⟨l,m,rfl,b6⟩)
 have b9:=aJ.nil (α:=oT) a6 141 K
 obtain ⟨e5,c0,ho⟩:=aB hm
 refine cJ [1,7,8] c0 (fun c p f w=>∃ e g,f 3=zS e c.length g/\f 9=i64 p/\aJ G K (aN 141 K e g c::box b7 27 o::L) w) ?_ ?_
 ·exact ⟨none,0,rfl,rfl,b9⟩
 ·rintro c p e6 f e7 hm hr ⟨e,g,a7,q,r⟩
  unfold aDC at hm
  refine aK (aC (cG q rfl) (aG (aO ?_)))
  rcases aH hm with ⟨u,hm⟩|⟨u,hm⟩
  ·refine aL u rfl (aU (aA (aO (cN (aK ?_)))));obtain ⟨a,a8,hm⟩:=aB hm
   refine aC (cT cL rfl h6 rfl rfl q a8) ?_;obtain ⟨e8,c1,c3⟩:=cF.el (sz:=3) rfl h6 a8
   cases c3
   refine aC (eI (t:=0) (vs:=[i64 a.F,i64 a.B,i64 a.To]) kD r c1 rfl rfl rfl) (bZ (vs:=[i64 0,i64 0,i64 0]) zeroValue66 r rfl (fun c4 e9 c6=>(cA (i:=0) (ns:=[i64 a.F,i64 a.B,i64 a.To]) (us:=[i64 a.F,i64 a.B,i64 a.To]) sizeOf66 c6 rfl rfl rfl rfl rfl (cY rfl) rfl rfl (fun c7 (c8:aJ G K (box c4 66 [i64 a.F,i64 a.B,i64 a.To]::aN 141 K e g c::box b7 27 o::L) c7)=>(aG ?_)))));obtain ⟨f0,n,x,c9,d0⟩:=aJ.lendBp c8 .head
   obtain ⟨y,d,d1,a9,d2⟩:=aJ.lendBp c9 zt1
   refine dT (C:=fun w'=>∃ L',aJ G y L' w') [(0,0),(1,0),(2,0),(3,0),(4,0),(5,0),(6,0),(7,0),(8,0),(9,0),(10,0),(11,0),(12,1),(13,1),(14,0)] bY (by kernel_rfl) (fun _ hg=>⟨_,aJ.mono a9 hg⟩) (fun f1 d3=>?_)
   have b:=aJ.mono a9 d3
   refine bQ rfl (fun _ _=>bA a7) (bQ rfl (fun _ _=>bT (t':=0) gP rfl rfl) (bQ rfl (fun _ ⟨_,b⟩=>bG (t:=0) cQ b (x.mono d) rfl rfl) (bQ rfl (fun _ _=>bT (t':=2) eU rfl rfl) (bQ rfl (fun _ ⟨_,b⟩=>bG (t:=2) eR b d1 rfl rfl) (bQ rfl (fun _ _=>bT (t':=1) hQ rfl rfl) (bQ rfl (fun _ ⟨_,b⟩=>bG (t:=1) cQ b (x.mono d) rfl rfl) ?_))))));obtain ⟨j,b0,hm⟩:=aB hm
   refine bQ rfl (fun _ _=>cT bX rfl (Z.mono (zL n d)) rfl rfl rfl b0) ?_;obtain ⟨f2,d4,d5⟩:=cF.el (sz:=1) rfl Z b0
   cases d5
   refine bQ rfl (fun _ ⟨_,b⟩=>bG (t:=0) lF b (d4.mono (zL n d)) rfl rfl) (bQ rfl (fun _ _=>bT (t':=2) gD rfl rfl) (bQ rfl (fun _ ⟨_,b⟩=>bG (t:=2) cQ b (x.mono d) rfl rfl) (bQ rfl (fun _ _=>dF (vs:=[(0,i64 a.F),(1,str j),(2,i64 a.To)]) (cs:=[i64 a.F,str j,i64 a.To]) aRa rfl (by kernel_rfl)) (jE rfl (cB (Kt:=K) (xs:=([⟨a.F,j,a.To⟩]:List oT)) (cs:=[i64 a.F,str j,i64 a.To]) (vs:=[(0,zA #[i64 a.F,str j,i64 a.To])]) vJ aBU rfl rfl b rfl (by kernel_rfl) rfl rfl rfl ⟨rfl,trivial⟩ (fun d6 d7 (b1:aJ G y (aN 141 K d6 1 ([⟨a.F,j,a.To⟩]:List oT)::aN 141 K e g c::L) d7)=>(bB (aA ⟨⟨_,b1⟩,?_⟩))))))))
   refine jE rfl ?_;obtain ⟨b2,d8,hm⟩:=aB hm
   refine dG (i:=0) vJ underlying133 aBU rfl rfl b1 rfl (zL n d) (zL n d) d8 rfl rfl rfl rfl (fun _ h=>h) (fun z V d9 (b3:aJ G y (aN 141 K z V b2::L) d9)=>(bB (aA ⟨⟨_,b3⟩,?_⟩)))
   refine bQ rfl (fun _ _=>cZ (v:=zS z b2.length V) rfl) (iO ?_)
   have e0:=d2 _ _ b3
   have e1:=d0 _ _ e0
   exact aX (aA (aP (aC (cE q rfl) (aF (v:=i64 (wr (p+1))) (aG ⟨_,(zI hm).symm,aM,z,V,rfl,rfl,(aJ.arr 3 [2,1] e1 rfl)⟩)))))
  ·refine aI u rfl (bV (aT (aT ?_)))
   have e2:=hr _ (zI hm).symm
   subst e2
   have hm:(uK c)=some R:=ho
   clear hr ho
   exact bJ (aA ⟨aM,c,e,g,hm,a7,(aJ.arr 2 [0] r rfl)⟩)
theorem iI {b:(List (List Int))} {e:(List (aZ × Int))} {a:Nat} {g:(List oT)} {c:(List Int)} {R:(Int × (List (List Int)) × (List (aZ × Int)))} (hm:aHt b e g c=some R) (Z:aJ G K (aN 56 Kf a2 c3 b::kQ a e::aN 141 K a5 c6 g::box b1 171 [zS a2 b.length c3,zM (some a),zS a5 g.length c6,Value.func (.func 101) #[] #[]]::L) w) (hG:G.lo=0) (a8:Hp.le Kf K) (h9:cF Kf a7 c8 c):
  Calls prog 145 ([zP (some ⟨b1,0,none⟩),zS a7 c.length c8]:List Value).toArray w (eH fun v w'=>∃ a1 a3,v=i64 R.1/\aJ G K (aN 56 Kf a1 a3 R.2.1::kQ a R.2.2::aN 141 K a5 c6 g::box b1 171 [zS a1 R.2.1.length a3,zM (some a),zS a5 g.length c6,Value.func (.func 101) #[] #[]]::L) w'):=by
 let x:=[zS a2 b.length c3,zM (some a),zS a5 g.length c6,Value.func (.func 101) #[] #[]]
 let o:=aN 141 K a5 c6 g
 refine aS func145 rfl (by kernel_rfl) (by show (2:Nat)<=47;decide) ?_;unfold aHt at hm
 refine aK (aD (v:=i64 0) (aG (aK (aF (v:=zP (some ⟨b1,0,none⟩)) (aC (iN rfl) (aC (bT (t':=3) aRp rfl rfl) (aC (dC sc_130 Z (i:=3) rfl rfl rfl) (aF (v:=zS a7 c.length c8) ?_))))))));obtain ⟨d,a9,hm⟩:=aB hm
 refine kG (vs:=[zS a7 c.length c8]) (caps:=[]) (us:=[zS a7 c.length c8]) rfl call101 rfl rfl (yM a9 Z hG (h9.mono a8)) ?_
 rintro _ c5 ⟨rfl,j⟩
 refine aD (v:=str d) (aG (aK (aF (v:=zP (some ⟨b1,0,none⟩)) (aC (iN rfl) (aC (bT (t':=1) aIH rfl rfl) (aC (dC sc_169 j (i:=3) rfl rfl rfl) (aF (v:=str d) (aC (R_look (kv:=e) (k:=d) (z:=(0:Int)) runUnderlying169 ko_9 zeroValue2 j (i:=1) rfl rfl rfl) (aF (v:=zT #[i64 ((qO e d).getD 0),zB ((qO e d).isSome)]) (aC (bS rfl rfl) (aC (bS rfl rfl) (aD (v:=i64 ((qO e d).getD 0)) (aD (v:=zB ((qO e d).isSome)) (aG (oO [] (fun f w=>∃ q r y t u,gF q r y=some R/\f 6=i64 q/\aJ G K (aN 56 Kf t u r::kQ a y::o::box b1 171 [zS t r.length u,zM (some a),zS a5 g.length c6,Value.func (.func 101) #[] #[]]::L) w) ?_ ?_)))))))))))))))
 ·rintro f c7 ⟨q,r,y,t,u,hm,b0,b2⟩
  unfold gF at hm
  refine aK (aY b0 (aD (v:=i64 q) (aG ?_)));obtain rfl:=zI hm
  exact bH (bI results145 rfl ⟨t,u,rfl,b2⟩)
 refine aK (aF (v:=zB ((qO e d).isSome)) (aC (dE rfl) (aG ?_)))
 rcases aH hm with ⟨V,hm⟩|⟨V,hm⟩
 ·refine aL V rfl (aK (aF (v:=zP (some ⟨b1,0,none⟩)) (aC (iN rfl) (aC (bT (t':=0) vA rfl rfl) (aC (dC aEz j (i:=3) rfl rfl rfl) (aC (bO (len:=b.length) kU rfl) (aD (v:=i64 (b.length:Int)) (aG (aK (aF (v:=zP (some ⟨b1,0,none⟩)) (aC (iN rfl) (aC (bT (t':=1) aIH rfl rfl) (aC (dC sc_169 j (i:=3) rfl rfl rfl) (aF (v:=str d) (aF (v:=i64 (b.length:Int)) ?_)))))))))))))));obtain ⟨p,b4,hm⟩:=aB hm
  refine aID (i:=1) (k:=d) (v:=(b.length:Int)) runUnderlying169 ko_9 j rfl rfl rfl rfl b4 (fun b5 (a4:aJ G K (aN 56 Kf a2 c3 b::kQ a p::o::box b1 171 x::L) b5)=>(aG (aP (aF (v:=zP (some ⟨b1,0,none⟩)) (aF (v:=zP (some ⟨b1,0,none⟩)) (aC (iN rfl) (aC (bT (t':=0) vA rfl rfl) (aC (dC aEz a4 (i:=3) rfl rfl rfl) (aF (v:=zS a7 c.length c8) (cB (Kt:=Kf) (xs:=([c]:List (List Int))) (cs:=[zS a7 c.length c8]) (vs:=[(0,zS a7 c.length c8)]) kU aBT rfl rfl a4 rfl (by kernel_rfl) rfl rfl rfl ⟨⟨a7,c8,rfl,h9⟩,trivial⟩ (fun b6 b7 (b8:aJ G K (aN 56 Kf b6 1 ([c]:List (List Int))::aN 56 Kf a2 c3 b::kQ a p::o::box b1 171 x::L) b7)=>?_)))))))))))
  obtain ⟨l,b9,hm⟩:=aB hm
  exact tH (i:=0) Kf kU underlying46 aBT rfl rfl b8 rfl (zR _) (zR _) b9 rfl rfl rfl rfl (fun _ _ _ h=>El.one h) (fun m n c0 (c1:aJ G K (aN 56 Kf m n l::kQ a p::o::box b1 171 x::L) c0)=>(aC (iN rfl) (aC (bT (t':=0) vA rfl rfl) (cA (i:=3) (ns:=[zS m l.length n]) (us:=[zS m l.length n,zM (some a),zS a5 g.length c6,Value.func (.func 101) #[] #[]]) sizeOf46 c1 rfl rfl rfl rfl rfl (cY rfl) rfl rfl (fun c2 (c4:aJ G K (aN 56 Kf m n l::kQ a p::o::box b1 171 [zS m l.length n,zM (some a),zS a5 g.length c6,Value.func (.func 101) #[] #[]]::L) c2)=>(aG ⟨aM,(b.length:Int),l,p,m,n,hm,rfl,c4⟩))))))
 ·exact aI V rfl (aU (aA ⟨aM,((qO e d).getD 0),b,e,a2,c3,hm,rfl,j⟩))
theorem xI {d:aZ} {a3:(List Int)} {b8:(List (List Int))} {c4:(List (aZ × Int))} {b:Nat} {l:(List oT)} {p:Int} {c5:Nat} {R:((List (List Int)) × (List (aZ × Int)) × (List oT))} (hm:lX d a3 b8 c4 l p=some R) (hs:aJ G K (aN 56 Kf a6 c7 b8::kQ b c4::aN 141 K a9 c10 l::box b5 171 [zS a6 b8.length c7,zM (some b),zS a9 l.length c10,Value.func (.func 101) #[] #[]]::box b4 168 [zP (some ⟨b5,0,none⟩)]::L) w) (hG:G.lo=0) (c8:Hp.le Kf K) (h3:cF Kf a1 c2 a3) (e1:eY K a11 c5 [i64 p]):
  Calls prog 146 ([str d,zS a1 a3.length c2,zP (some ⟨b4,0,none⟩),cS a11 c5]:List Value).toArray w (eH fun v w'=>∃ d0 d1 d2 d3,v=zT #[]/\aJ G K (aN 56 Kf d0 d1 R.1::kQ b R.2.1::aN 141 K d2 d3 R.2.2::box b5 171 [zS d0 R.1.length d1,zM (some b),zS d2 R.2.2.length d3,Value.func (.func 101) #[] #[]]::box b4 168 [zP (some ⟨b5,0,none⟩)]::L) w'):=by
 let d4:=[zP (some ⟨b5,0,none⟩),zS a1 a3.length c2]
 refine aS func146 rfl (by kernel_rfl) (by show (4:Nat)<=21;decide) ?_;unfold lX at hm
 refine cP [] (fun f w=>∃ a4 b9 a5 a7 a8 b0 b1,kR a4 b9 a5=some R/\aJ G K (aN 141 K b0 b1 a5::aN 56 Kf a7 a8 a4::kQ b b9::box b5 171 [zS a7 a4.length a8,zM (some b),zS b0 a5.length b1,Value.func (.func 101) #[] #[]]::box b4 168 [zP (some ⟨b5,0,none⟩)]::L) w) ?_ ?_
 ·rintro f g6 ⟨a4,b9,a5,a7,a8,b0,b1,hm,e2⟩
  unfold kR at hm
  obtain rfl:=zI hm
  exact aHV results146 ⟨a7,a8,b0,b1,rfl,(aJ.arr 3 [1,2,0] e2 rfl)⟩
 obtain ⟨m,n,c0,e4,c1⟩:=aJ.lendBp hs zt4
 refine xJ (C:=fun w'=>∃ L',aJ G m L' w') [] bY (by kernel_rfl) (fun g7 e5=>?_)
 have c:=aJ.mono e4 e5
 refine dZ (i:=0) rfl (by kernel_rfl) ⟨_,c⟩ (fun _ ⟨_,c⟩=>bG (t:=0) xR c c0 rfl rfl) (dZ (i:=1) rfl (by kernel_rfl) ⟨_,c⟩ (fun _ ⟨_,c⟩=>bG (t:=0) xR c c0 rfl rfl) (dZ (i:=2) rfl (by kernel_rfl) ⟨_,c⟩ (fun _ _=>iN rfl) (dZ (i:=3) rfl (by kernel_rfl) ⟨_,c⟩ (fun _ _=>bT (t':=2) aAy rfl rfl) (dZ (i:=5) rfl (by kernel_rfl) ⟨_,c⟩ (fun _ ⟨_,c⟩=>bG (t:=0) sc_3 c (e1.mono n) rfl rfl) (dZ (i:=6) rfl (by kernel_rfl) ⟨_,c⟩ (fun _ _=>bA (v:=str d) rfl) (dZ (i:=7) rfl (by kernel_rfl) ⟨_,c⟩ (fun _ ⟨_,c⟩=>bG (t:=0) xR c c0 rfl rfl) (dZ (i:=8) rfl (by kernel_rfl) ⟨_,c⟩ (fun _ _=>bA (v:=zS a1 a3.length c2) rfl) (lV (i:=4) (j:=9) (by kernel_rfl) rfl rfl ?_ ?_))))))))
 ·refine aC (dC aGP c (i:=3) rfl rfl rfl) (bB (aA ⟨fun _=>⟨_,c⟩,?_⟩))
  refine cK (i:=9) (by kernel_rfl) rfl ?_;obtain ⟨e,e6,hm⟩:=aB hm
  refine aR (vs:=d4) call145 rfl (iI (Kf:=Kf) e6 c hG (zL c8 n) h3) ?_
  rintro _ g8 ⟨o,q,rfl,c3⟩
  refine bB (aA ⟨fun _=>⟨_,c3⟩,?_⟩)
  refine dZ (i:=10) rfl (by kernel_rfl) ⟨_,c3⟩ (fun _ _=>dF (vs:=[(0,i64 p),(1,str d),(2,i64 e.1)]) (cs:=[i64 p,str d,i64 e.1]) aRa rfl (by kernel_rfl)) (cK (i:=11) (by kernel_rfl) rfl (cB (Kt:=K) (xs:=([⟨p,d,e.1⟩]:List oT)) (cs:=[i64 p,str d,i64 e.1]) (vs:=[(0,zA #[i64 p,str d,i64 e.1])]) vJ aBU rfl rfl c3 rfl (by kernel_rfl) rfl rfl rfl ⟨rfl,trivial⟩ (fun e7 e8 (d5:aJ G m (aN 141 K e7 1 ([⟨p,d,e.1⟩]:List oT)::aN 56 Kf o q e.2.1::kQ b e.2.2::aN 141 K a9 c10 l::box b5 171 [zS o e.2.1.length q,zM (some b),zS a9 l.length c10,Value.func (.func 101) #[] #[]]::L) e8)=>(bB (aA ⟨fun _=>⟨_,d5⟩,?_⟩)))))
  refine cK (i:=12) (by kernel_rfl) rfl ?_;obtain ⟨r,e9,hm⟩:=aB hm
  refine dG (i:=2) vJ underlying133 aBU rfl rfl d5 rfl n n e9 rfl rfl rfl rfl (fun _ h=>h) (fun u c45 f0 (b2:aJ G m (aN 56 Kf o q e.2.1::kQ b e.2.2::aN 141 K u c45 r::box b5 171 [zS o e.2.1.length q,zM (some b),zS a9 l.length c10,Value.func (.func 101) #[] #[]]::L) f0)=>(bB (aA ⟨fun _=>⟨_,b2⟩,?_⟩)))
  refine dZ (i:=13) rfl (by kernel_rfl) ⟨_,b2⟩ (fun _ _=>iN rfl) (dZ (i:=14) rfl (by kernel_rfl) ⟨_,b2⟩ (fun _ _=>bT (t':=2) aAy rfl rfl) (cK (i:=15) (by kernel_rfl) rfl (cA (i:=3) (ns:=[zS u r.length c45]) (us:=[zS o e.2.1.length q,zM (some b),zS u r.length c45,Value.func (.func 101) #[] #[]]) sizeOf133 b2 rfl rfl rfl rfl rfl (cY rfl) rfl rfl (fun f1 (d6:aJ G m (aN 56 Kf o q e.2.1::kQ b e.2.2::aN 141 K u c45 r::box b5 171 [zS o e.2.1.length q,zM (some b),zS u r.length c45,Value.func (.func 101) #[] #[]]::L) f1)=>(bB (aA ⟨fun _=>⟨_,d6⟩,?_⟩))))))
  refine gU (by kernel_rfl) ?_
  have f2:=c1 _ _ d6
  exact aA ⟨aM,e.2.1,e.2.2,r,o,q,u,c45,hm,(aJ.arr 5 [3,1,2,4,0] f2 rfl)⟩
 ·obtain ⟨a,f3,hm⟩:=aB hm
  refine aR (vs:=d4) call145 rfl (iI (Kf:=Kf) f3 c hG (zL c8 n) h3) ?_
  rintro _ g9 ⟨g,k,rfl,x⟩
  refine bB (aA ⟨fun _=>⟨_,x⟩,?_⟩)
  refine dZ (i:=10) rfl (by kernel_rfl) ⟨_,x⟩ (fun _ _=>dF (vs:=[(0,i64 p),(1,str d),(2,i64 a.1)]) (cs:=[i64 p,str d,i64 a.1]) aRa rfl (by kernel_rfl)) (lV (i:=4) (j:=11) (by kernel_rfl) rfl rfl ?_ ?_)
  ·refine aC (dC aGP x (i:=3) rfl rfl rfl) (bB (aA ⟨fun _=>⟨_,x⟩,?_⟩))
   refine cK (i:=11) (by kernel_rfl) rfl (cB (Kt:=K) (xs:=([⟨p,d,a.1⟩]:List oT)) (cs:=[i64 p,str d,i64 a.1]) (vs:=[(0,zA #[i64 p,str d,i64 a.1])]) vJ aBU rfl rfl x rfl (by kernel_rfl) rfl rfl rfl ⟨rfl,trivial⟩ (fun f4 f5 (d7:aJ G m (aN 141 K f4 1 ([⟨p,d,a.1⟩]:List oT)::aN 56 Kf g k a.2.1::kQ b a.2.2::aN 141 K a9 c10 l::box b5 171 [zS g a.2.1.length k,zM (some b),zS a9 l.length c10,Value.func (.func 101) #[] #[]]::L) f5)=>(bB (aA ⟨fun _=>⟨_,d7⟩,?_⟩))))
   refine cK (i:=12) (by kernel_rfl) rfl ?_;obtain ⟨y,f6,hm⟩:=aB hm
   refine dG (i:=2) vJ underlying133 aBU rfl rfl d7 rfl n n f6 rfl rfl rfl rfl (fun _ h=>h) (fun z V f7 (b3:aJ G m (aN 56 Kf g k a.2.1::kQ b a.2.2::aN 141 K z V y::box b5 171 [zS g a.2.1.length k,zM (some b),zS a9 l.length c10,Value.func (.func 101) #[] #[]]::L) f7)=>(bB (aA ⟨fun _=>⟨_,b3⟩,?_⟩)))
   refine dZ (i:=13) rfl (by kernel_rfl) ⟨_,b3⟩ (fun _ _=>iN rfl) (dZ (i:=14) rfl (by kernel_rfl) ⟨_,b3⟩ (fun _ _=>bT (t':=2) aAy rfl rfl) (cK (i:=15) (by kernel_rfl) rfl (cA (i:=3) (ns:=[zS z y.length V]) (us:=[zS g a.2.1.length k,zM (some b),zS z y.length V,Value.func (.func 101) #[] #[]]) sizeOf133 b3 rfl rfl rfl rfl rfl (cY rfl) rfl rfl (fun f8 (d8:aJ G m (aN 56 Kf g k a.2.1::kQ b a.2.2::aN 141 K z V y::box b5 171 [zS g a.2.1.length k,zM (some b),zS z y.length V,Value.func (.func 101) #[] #[]]::L) f8)=>(bB (aA ⟨fun _=>⟨_,d8⟩,?_⟩))))))
   refine gU (by kernel_rfl) ?_
   have f9:=c1 _ _ d8
   exact aA ⟨aM,a.2.1,a.2.2,y,g,k,z,V,hm,(aJ.arr 5 [3,1,2,4,0] f9 rfl)⟩
  ·refine cB (Kt:=K) (xs:=([⟨p,d,a.1⟩]:List oT)) (cs:=[i64 p,str d,i64 a.1]) (vs:=[(0,zA #[i64 p,str d,i64 a.1])]) vJ aBU rfl rfl x rfl (by kernel_rfl) rfl rfl rfl ⟨rfl,trivial⟩ (fun g0 g1 (b6:aJ G m (aN 141 K g0 1 ([⟨p,d,a.1⟩]:List oT)::aN 56 Kf g k a.2.1::kQ b a.2.2::aN 141 K a9 c10 l::box b5 171 [zS g a.2.1.length k,zM (some b),zS a9 l.length c10,Value.func (.func 101) #[] #[]]::L) g1)=>(bB (aA ⟨fun _=>⟨_,b6⟩,?_⟩)))
   refine cK (i:=4) (by kernel_rfl) rfl (aC (dC aGP b6 (i:=4) rfl rfl rfl) (bB (aA ⟨fun _=>⟨_,b6⟩,?_⟩)))
   refine cK (i:=12) (by kernel_rfl) rfl ?_;obtain ⟨Z,g2,hm⟩:=aB hm
   refine dG (i:=2) vJ underlying133 aBU rfl rfl b6 rfl n n g2 rfl rfl rfl rfl (fun _ h=>h) (fun a0 a2 g3 (b7:aJ G m (aN 56 Kf g k a.2.1::kQ b a.2.2::aN 141 K a0 a2 Z::box b5 171 [zS g a.2.1.length k,zM (some b),zS a9 l.length c10,Value.func (.func 101) #[] #[]]::L) g3)=>(bB (aA ⟨fun _=>⟨_,b7⟩,?_⟩)))
   refine dZ (i:=13) rfl (by kernel_rfl) ⟨_,b7⟩ (fun _ _=>iN rfl) (dZ (i:=14) rfl (by kernel_rfl) ⟨_,b7⟩ (fun _ _=>bT (t':=2) aAy rfl rfl) (cK (i:=15) (by kernel_rfl) rfl (cA (i:=3) (ns:=[zS a0 Z.length a2]) (us:=[zS g a.2.1.length k,zM (some b),zS a0 Z.length a2,Value.func (.func 101) #[] #[]]) sizeOf133 b7 rfl rfl rfl rfl rfl (cY rfl) rfl rfl (fun g4 (d9:aJ G m (aN 56 Kf g k a.2.1::kQ b a.2.2::aN 141 K a0 a2 Z::box b5 171 [zS g a.2.1.length k,zM (some b),zS a0 Z.length a2,Value.func (.func 101) #[] #[]]::L) g4)=>(bB (aA ⟨fun _=>⟨_,d9⟩,?_⟩))))))
   refine gU (by kernel_rfl) ?_
   have g5:=c1 _ _ d9
   exact aA ⟨aM,a.2.1,a.2.2,Z,g,k,a0,a2,hm,(aJ.arr 5 [3,1,2,4,0] g5 rfl)⟩
theorem yN {r:(List Int)} {u:(List (List Int))} {c1:(List (aZ × Int))} {a:Nat} {x:(List oT)} {d6:Int} {y:Nat} {p:cI} {c3:Nat} {R:(Bool × (List (List Int)) × (List (aZ × Int)) × (List oT))} (hm:nP r u c1 x d6 p=some R) (hs:aJ G K (aN 56 Kf a6 c7 u::kQ a c1::aN 141 K a9 c10 x::box b5 171 [zS a6 u.length c7,zM (some a),zS a9 x.length c10,Value.func (.func 101) #[] #[]]::box b4 168 [zP (some ⟨b5,0,none⟩)]::L) w) (hG:G.lo=0) (e9:Hp.le Kf K) (h3:cF K a1 c2 r) (f1:eY K a11 y [i64 d6]) (c4:eY K a14 c3 (zC p a17 c18 a20 c21)) (c5:cF K a17 c18 p.L) (f2:cF K a20 c21 p.E):
  Calls prog 103 ([zS a1 r.length c2,Value.func (.func 146) #[] #[zP (some ⟨b4,0,none⟩),cS a11 y],cS a14 c3]:List Value).toArray w (eH fun v w'=>∃ K' d8 d9 e0 e1,v=zB R.1/\Hp.le K K'/\aJ G K' (aN 56 K' d8 d9 R.2.1::kQ a R.2.2.1::aN 141 K e0 e1 R.2.2.2::box b5 171 [zS d8 R.2.1.length d9,zM (some a),zS e0 R.2.2.2.length e1,Value.func (.func 101) #[] #[]]::box b4 168 [zP (some ⟨b5,0,none⟩)]::L) w'):=by
 let n:=[zP (some ⟨b5,0,none⟩)]
 refine aS func103 rfl (by kernel_rfl) (by show (3:Nat)<=29;decide) ?_;unfold nP at hm
 refine aK (aD (v:=zB false) (aG (aO (aK (aC (bU (k':=c3+2) eU rfl c4 rfl) (aC (bG (t:=2) eR hs c4 rfl rfl) ?_))))));obtain ⟨f3,e2,hm⟩:=aB hm
 obtain ⟨h5,h6,e3⟩:=Cut.ex 1 a17 c18 1
 have e4:=cF.cut' c5 e2 e3
 refine aC (qF bX c5.room e3 rfl rfl rfl e2) (aC (bO (len:=f3.length) bX rfl) (aF (v:=i64 0) (aG (aW [] (fun f w=>∃ z a3 c8 a4 a5 a7 a8 b0,Hp.le K z/\jF a3 c8 a4=some R/\aJ G z (aN 141 K a8 b0 a4::aN 56 z a5 a7 a3::kQ a c8::box b5 171 [zS a5 a3.length a7,zM (some a),zS a8 a4.length b0,Value.func (.func 101) #[] #[]]::box b4 168 n::L) w) ?_ ?_))))
 ·rintro f h7 ⟨z,a3,c8,a4,a5,a7,a8,b0,f4,hm,f5⟩
  unfold jF at hm
  refine aA (aK (aD (v:=zB true) (aG ?_)));obtain rfl:=zI hm
  exact bH (bI results103 rfl ⟨z,a5,a7,a8,b0,rfl,f4,(aJ.arr 3 [1,2,0] f5 rfl)⟩)
 have f7:aJ G K (aN 56 K a6 c7 u::kQ a c1::aN 141 K a9 c10 x::box b5 171 [zS a6 u.length c7,zM (some a),zS a9 x.length c10,Value.func (.func 101) #[] #[]]::box b4 168 n::L) w:=aJ.weak (i:=0) hs rfl (fun _ h=>aN.mono e9 h)
 obtain ⟨h8,f8,ho⟩:=aB hm
 refine uW [0,1,2,11,12] f8 (fun b m c b1 f w=>∃ l e g j k,Hp.le K l/\f 13=i64 b1/\aJ G l (aN 56 l e g b::kQ a m::aN 141 K j k c::box b5 171 [zS e b.length g,zM (some a),zS j c.length k,Value.func (.func 101) #[] #[]]::box b4 168 n::L) w) ?_ ?_
 ·exact ⟨K,a6,c7,a9,c10,(zR _),rfl,f7⟩
 ·rintro b m c b1 f9 f h9 hm hr ⟨l,e,g,j,k,d,c9,b2⟩
  unfold qK at hm
  refine aK (aC (cG c9 rfl) (aG (aO ?_)))
  rcases aH hm with ⟨d0,hm⟩|⟨d0,hm⟩
  ·refine aL d0 rfl (aU (aA (aO (aW [0,1,2,11,12,13] (fun f w=>∃ V b3 d1 b6 b7 b8 b9 c0,Hp.le l V/\jG b1 b3 d1 b6=some f9/\aJ G V (aN 141 K b9 c0 b6::aN 56 V b7 b8 b3::kQ a d1::box b5 171 [zS b7 b3.length b8,zM (some a),zS b9 b6.length c0,Value.func (.func 101) #[] #[]]::box b4 168 n::L) w) ?_ ?_))))
   ·rintro f i0 ⟨V,b3,d1,b6,b7,b8,b9,c0,g0,hm,g1⟩
    unfold jG at hm
    exact aA (aP (aC (cE c9 rfl) (aF (v:=i64 (wr (b1+1))) (aG ⟨_,(zI hm).symm,aM,V,b7,b8,b9,c0,(zL d g0),rfl,(aJ.arr 3 [1,2,0] g1 rfl)⟩))))
   refine aK ?_;obtain ⟨o,e5,hm⟩:=aB hm
   refine aC (cT bX rfl (e4.mono d) rfl rfl c9 e5) ?_;obtain ⟨i1,g2,g3⟩:=cF.el (sz:=1) rfl e4 e5
   cases g3
   refine aC (bG (t:=0) lF b2 (g2.mono d) rfl rfl) (aD (v:=str o) (aG (aK (aC (eI (t:=0) (vs:=(zC p a17 c18 a20 c21)) cV b2 (c4.mono d) rfl rfl rfl) (aF (v:=zS a1 r.length c2) (aF (v:=str o) ?_))))));obtain ⟨q,g4,hm⟩:=aB hm
   refine aR (vs:=[zA (zCa p a17 c18 a20 c21),zS a1 r.length c2,str o]) call71 rfl (yJ g4 b2 (c5.mono d) (f2.mono d) (h3.mono d)) ?_
   rintro _ e6 ⟨Z,a0,rfl,e7⟩
   refine aD (v:=zS Z q.length a0) (aG (aK (aF (v:=zS Z q.length a0) (aC (bO (len:=q.length) cC rfl) (aC (kC rfl rfl) (aG ?_))))))
   rcases aH hm with ⟨d2,hm⟩|⟨d2,hm⟩
   ·refine aL d2 rfl (aP (aF (v:=Value.func (.func 146) #[] #[zP (some ⟨b4,0,none⟩),cS a11 y]) (aF (v:=str o) (aF (v:=zS Z q.length a0) ?_))));obtain ⟨a2,d3,g5,d4⟩:=aJ.giveSp e7 d .head
    replace d4:aJ G a2 (aN 56 l e g b::kQ a m::aN 141 K j k c::box b5 171 [zS e b.length g,zM (some a),zS j c.length k,Value.func (.func 101) #[] #[]]::box b4 168 n::L) e6:=d4
    have g6:aJ G a2 (aN 56 a2 e g b::kQ a m::aN 141 K j k c::box b5 171 [zS e b.length g,zM (some a),zS j c.length k,Value.func (.func 101) #[] #[]]::box b4 168 n::L) e6:=aJ.weak (i:=0) d4 rfl (fun _ h=>aN.mono d3 h)
    obtain ⟨d5,g7,hm⟩:=aB hm
    refine kG (vs:=[str o,zS Z q.length a0]) (caps:=[zP (some ⟨b4,0,none⟩),cS a11 y]) (us:=[str o,zS Z q.length a0,zP (some ⟨b4,0,none⟩),cS a11 y]) rfl call146 rfl rfl (xI (Kf:=a2) g7 g6 hG (zR _) g5 (f1.mono (zL d d3))) ?_
    rintro _ i2 ⟨g8,g9,h0,h1,rfl,h2⟩
    exact bB (aX (aA ⟨aM,a2,d5.1,d5.2.1,d5.2.2,g8,g9,h0,h1,d3,hm,(aJ.arr 3 [2,0,1] h2 rfl)⟩))
   ·exact aI d2 rfl (aU (aX (aA ⟨aM,l,b,m,c,e,g,j,k,(zR _),hm,(aJ.arr 4 [3,1,2] e7 rfl)⟩)))
  ·refine aI d0 rfl (bV (aT (aT ?_)))
   have h4:=hr _ (zI hm).symm
   subst h4
   have hm:(jF b m c)=some R:=ho
   clear hr ho
   exact bJ (aA ⟨aM,l,b,m,c,e,g,j,k,d,hm,(aJ.arr 3 [2,0,1] b2 rfl)⟩)
theorem aAr {d8:(List Int)} {d2:cI} {k5:Nat} {R:(cI × (List (List Int)) × Bool)} (hm:oP d8 d2=some R) (hs:aJ G K (L) w) (hG:G.lo=0) (h3:cF K a1 c2 d8) (h6:eY K a4 k5 (zC d2 a7 c8 a10 c11)) (h9:cF K a7 c8 d2.L) (m4:cF K a10 c11 d2.E):
  Calls prog 100 ([zS a1 d8.length c2,Value.func (.func 101) #[] #[],Value.func (.func 103) #[] #[cS a4 k5]]:List Value).toArray w (eH fun v w'=>∃ K' i4 i5 i6 i7 i8 i9,v=zT #[zA (zCa R.1 i4 i5 i6 i7),zS i8 R.2.1.length i9,zB R.2.2]/\Hp.le K K'/\aJ G K' (aN 9 K i4 i5 R.1.L::aN 66 K i6 i7 R.1.E::aN 56 K' i8 i9 R.2.1::L) w'):=by
 let e:=zG
 refine aS func100 rfl (by kernel_rfl) (by show (3:Nat)<=73;decide) ?_;unfold oP at hm
 refine aK (bZ (vs:=e) zeroValue27 hs rfl (fun l y6 m5=>(aD (v:=zS none 0 0) (aD (v:=zB false) (aG (aK (aIC aZ Int m5 ?_)))))))
 intro a m6 (m7:aJ G K (kQ a ([]:(List (aZ × Int)))::box l 27 e::L) m6)
 refine aF (v:=Value.func (.func 101) #[] #[]) (aC (dF (vs:=[(1,zM (some a)),(3,Value.func (.func 101) #[] #[])]) (cs:=[zS none 0 0,zM (some a),zS none 0 0,Value.func (.func 101) #[] #[]]) bs_171 rfl (by kernel_rfl)) (fJ (v:=zA #[zS none 0 0,zM (some a),zS none 0 0,Value.func (.func 101) #[] #[]]) (vs:=[zS none 0 0,zM (some a),zS none 0 0,Value.func (.func 101) #[] #[]]) m7 rfl rfl (fun b y7 m8=>(bZ (vs:=[zP none]) zeroValue168 m8 rfl (fun k y8 m9=>(cA (i:=0) (ns:=[zP (some ⟨b,0,none⟩)]) (us:=[zP (some ⟨b,0,none⟩)]) sizeOf168 m9 rfl rfl rfl rfl rfl (cY rfl) rfl rfl ?_))))))
 intro j0 (j1:aJ G K (box k 168 [zP (some ⟨b,0,none⟩)]::box b 171 [zS none 0 0,zM (some a),zS none 0 0,Value.func (.func 101) #[] #[]]::kQ a ([]:(List (aZ × Int)))::box l 27 e::L) j0)
 refine aG (aK (aC (dC xR j1 (i:=0) rfl rfl rfl) (aF (v:=zS a1 d8.length c2) ?_)))
 have n0:=aJ.nil (α:=(List Int)) j1 56 K
 have n1:=aJ.nil (α:=oT) n0 141 K
 have n2:aJ G K (aN 56 K none 0 ([]:List (List Int))::kQ a ([]:(List (aZ × Int)))::aN 141 K none 0 ([]:List oT)::box b 171 [zS none 0 0,zM (some a),zS none 0 0,Value.func (.func 101) #[] #[]]::box k 168 [zP (some ⟨b,0,none⟩)]::box l 27 e::L) j0:=(aJ.arr 5 [1,4,0,3,2] n1 rfl)
 obtain ⟨g1,n3,hm⟩:=aB hm
 refine aR (vs:=[zP (some ⟨b,0,none⟩),zS a1 d8.length c2]) call145 rfl (iI (Kf:=K) n3 n2 hG (zR _) h3) ?_
 rintro _ y9 ⟨g2,g3,rfl,n4⟩
 refine aG (aO (aK (bZ (vs:=[i64 0]) zeroValue3 n4 rfl (fun j2 z0 n5=>(cA (i:=0) (ns:=[i64 0]) (us:=[i64 0]) sizeOf3 n5 rfl rfl rfl rfl rfl (cY rfl) rfl rfl (fun n6 (n7:aJ G K (box j2 3 [i64 0]::aN 56 K g2 g3 g1.2.1::kQ a g1.2.2::aN 141 K none 0 ([]:List oT)::box b 171 [zS g2 g1.2.1.length g3,zM (some a),zS none 0 0,Value.func (.func 101) #[] #[]]::box k 168 [zP (some ⟨b,0,none⟩)]::box l 27 e::L) n6)=>(aG (aW [6,9] (fun f w=>∃ z m c7 n V c45 r u,Hp.le K z/\jX m c7 n=some R/\aJ G z (aN 141 K r u n::aN 56 z V c45 m::kQ a c7::box b 171 [zS V m.length c45,zM (some a),zS r n.length u,Value.func (.func 101) #[] #[]]::box k 168 [zP (some ⟨b,0,none⟩)]::box l 27 e::L) w) ?_ ?_))))))))
 ·rintro f z1 ⟨z,m,c7,n,V,c45,r,u,b4,hm,n8⟩
  unfold jX at hm
  refine aA (aO (cP [6,9] (fun f w=>∃ b5 b6 a0 a2 g4 a5 a6 a8 a9,lY m b5 b6 a0 a2=some R/\f 12=zP (some ⟨g4,0,none⟩)/\aJ G z (aN 66 K a8 a9 a2::aN 9 K a5 a6 a0::box g4 27 [i64 b5,i64 b6,zS a5 a0.length a6,zS a8 a2.length a9]::aN 141 K r u n::aN 56 z V c45 m::kQ a c7::box b 171 [zS V m.length c45,zM (some a),zS r n.length u,Value.func (.func 101) #[] #[]]::box k 168 [zP (some ⟨b,0,none⟩)]::box l 27 e::L) w) ?_ ?_))
  ·rintro f z2 ⟨b5,b6,a0,a2,g4,a5,a6,a8,a9,hm,j3,n9⟩
   unfold lY at hm
   refine aA (aO ?_);obtain ⟨z3,j4,j5,o0,o1⟩:=aJ.lendBp n9 zt2
   obtain ⟨z4,f4,o2,o3,o4⟩:=aJ.lendBp o0 zt5
   obtain ⟨j6,e0,o5,j7,o6⟩:=aJ.lendBp o3 zt5
   refine dT (C:=fun w'=>∃ L',aJ G j6 L' w') [(0,0),(1,0),(2,0),(3,0),(4,0),(5,1),(6,1),(7,1),(8,2),(9,2)] bY (by kernel_rfl) (fun _ hg=>⟨_,aJ.mono j7 hg⟩) (fun z5 o7=>?_)
   have c1:=aJ.mono j7 o7
   refine bQ rfl (fun _ ⟨_,c1⟩=>eI (t:=0) (vs:=[i64 b5,i64 b6,zS a5 a0.length a6,zS a8 a2.length a9]) cV c1 (j5.mono (zL f4 e0)) j3 rfl rfl) (bQ rfl (fun _ ⟨_,c1⟩=>bG (t:=0) xR c1 o5 rfl rfl) (bQ rfl (fun _ _=>iN rfl) (bQ rfl (fun _ _=>bT (t':=0) vA rfl rfl) (bQ rfl (fun _ ⟨_,c1⟩=>bG (t:=0) aEz c1 (o2.mono e0) rfl rfl) (jE rfl (aC (eI (t:=0) (vs:=[i64 b5,i64 b6,zS a5 a0.length a6,zS a8 a2.length a9]) cV c1 (j5.mono (zL f4 e0)) j3 rfl rfl) (bB (aA ⟨⟨_,c1⟩,?_⟩))))))))
   refine jE rfl ?_;obtain ⟨z6,o8,o9,p0,p1⟩:=aJ.lendSp c1 (zL (zL (zL b4 j4) f4) e0) zt1
   obtain ⟨z7,p2,p3,p4,p5⟩:=aJ.lendSp p0 (zL (zL (zL (zL b4 j4) f4) e0) o8) .head
   obtain ⟨p6,p7,hm⟩:=aB hm
   refine aR (vs:=[zA #[i64 b5,i64 b6,zS a5 a0.length a6,zS a8 a2.length a9]]) call20 rfl (jM (t:=⟨b5,b6,a0,a2⟩) p7 p4 hG (o9.mono p2) p3) ?_
   rintro _ z8 ⟨rfl,p8⟩
   have p9:=p5 _ _ p8
   have j8:=p1 _ _ p9
   refine bB (aA ⟨⟨_,j8⟩,?_⟩)
   refine jE rfl (cA (i:=5) (ns:=[i64 b5,i64 b6,zS a5 a0.length a6,zS a8 a2.length a9]) (us:=[i64 b5,i64 b6,zS a5 a0.length a6,zS a8 a2.length a9]) sizeOf27 j8 rfl rfl rfl rfl rfl (cY rfl) rfl rfl (fun q0 (j9:aJ G j6 (aN 9 K a5 a6 a0::aN 66 K a8 a9 a2::aN 141 K r u n::aN 56 z V c45 m::kQ a c7::box l 27 [i64 b5,i64 b6,zS a5 a0.length a6,zS a8 a2.length a9]::L) q0)=>(bB (aA ⟨⟨_,j9⟩,?_⟩))))
   have q1:=o6 _ _ j9
   have q2:=o4 _ _ q1
   have k0:=o1 _ _ q2
   refine aGh rfl (aD (v:=zS V m.length c45) (aG (aGh rfl (aD (v:=zB p6) (aG (iO (aA ?_)))))));obtain rfl:=zI hm
   exact bH (aAR results100 (fK (vs:=[i64 b5,i64 b6,zS a5 a0.length a6,zS a8 a2.length a9]) rfl cV k0 (i:=8) rfl rfl rfl) (mO rfl rfl) (mO rfl rfl) ⟨z,a5,a6,a8,a9,V,c45,rfl,b4,(aJ.arr 9 [3,4,6] k0 rfl)⟩)
  obtain ⟨z9,c9,g5,q4,g6⟩:=aJ.lendBp n8 zt3
  obtain ⟨q5,b7,g7,q6,g8⟩:=aJ.lendBp q4 zt3
  refine xJ (C:=fun w'=>∃ L',aJ G q5 L' w') [16] bY (by kernel_rfl) (fun a00 q7=>?_)
  have c:=aJ.mono q6 q7
  refine dZ (i:=0) rfl (by kernel_rfl) ⟨_,c⟩ (fun _ ⟨_,c⟩=>bG (t:=0) xR c g7 rfl rfl) (dZ (i:=1) rfl (by kernel_rfl) ⟨_,c⟩ (fun _ _=>iN rfl) (dZ (i:=2) rfl (by kernel_rfl) ⟨_,c⟩ (fun _ _=>bT (t':=0) vA rfl rfl) (dZ (i:=3) rfl (by kernel_rfl) ⟨_,c⟩ (fun _ ⟨_,c⟩=>bG (t:=0) aEz c (g5.mono b7) rfl rfl) (dZ (i:=4) rfl (by kernel_rfl) ⟨_,c⟩ (fun _ _=>bO (len:=m.length) kU rfl) (dZ (i:=5) rfl (by kernel_rfl) ⟨_,c⟩ (fun _ ⟨_,c⟩=>bG (t:=0) xR c g7 rfl rfl) (dZ (i:=6) rfl (by kernel_rfl) ⟨_,c⟩ (fun _ _=>iN rfl) (dZ (i:=7) rfl (by kernel_rfl) ⟨_,c⟩ (fun _ _=>bT (t':=2) aAy rfl rfl) (dZ (i:=8) rfl (by kernel_rfl) ⟨_,c⟩ (fun _ ⟨_,c⟩=>bG (t:=2) aGP c (g5.mono b7) rfl rfl) (dZ (i:=10) rfl (by kernel_rfl) ⟨_,c⟩ (fun _ ⟨_,c⟩=>bG (t:=0) xR c g7 rfl rfl) (dZ (i:=11) rfl (by kernel_rfl) ⟨_,c⟩ (fun _ _=>iN rfl) (dZ (i:=12) rfl (by kernel_rfl) ⟨_,c⟩ (fun _ _=>bT (t':=2) aAy rfl rfl) (dZ (i:=13) rfl (by kernel_rfl) ⟨_,c⟩ (fun _ ⟨_,c⟩=>bG (t:=2) aGP c (g5.mono b7) rfl rfl) (lV (i:=9) (j:=15) (by kernel_rfl) rfl rfl ?_ ?_)))))))))))))
  ·obtain ⟨a01,a02,q8,q9,r0⟩:=aJ.lendSp c (zL (zL b4 c9) b7) .head
   obtain ⟨f5,r1,hm⟩:=aB hm
   refine aR (vs:=[zS r n.length u]) call147 rfl (aBG r1 q9 q8) ?_
   rintro _ a03 ⟨f6,f7,rfl,r2⟩
   have g9:=r0 _ _ r2
   refine bB (aA ⟨fun _=>⟨_,g9⟩,?_⟩)
   refine lV (i:=14) (j:=15) (by kernel_rfl) rfl rfl ?_ ?_
   ·obtain ⟨a04,r3,r4,r5,r6⟩:=aJ.lendSp g9 (zL (zL b4 c9) b7) zt1
    obtain ⟨a05,r7,r8,r9,s0⟩:=aJ.lendSp r5 (zL (zL (zL b4 c9) b7) r3) .head
    obtain ⟨o,s1,hm⟩:=aB hm
    refine aR (vs:=[i64 (m.length:Int),i64 0,zS f6 f5.length f7,zS r n.length u]) call56 rfl (tE s1 r9 (r4.mono r7) r8) ?_
    rintro _ a06 ⟨e1,e2,e3,e4,rfl,s2⟩
    have s3:=s0 _ _ s2
    have k1:=r6 _ _ s3
    refine bB (aA ⟨fun _=>⟨_,k1⟩,?_⟩)
    refine cK (i:=15) (by kernel_rfl) rfl (bZ (vs:=e) zeroValue27 k1 rfl (fun k2 a07 k3=>(bB (aA ⟨fun _=>⟨_,k3⟩,?_⟩))))
    refine cK (i:=16) (by kernel_rfl) rfl ?_
    have s4:=g8 _ _ k3
    have s5:=g6 _ _ s4
    refine cA (i:=2) (ns:=(zC o e1 e2 e3 e4)) (us:=(zC o e1 e2 e3 e4)) sizeOf27 s5 rfl rfl rfl rfl rfl (cY rfl) rfl rfl (fun s6 (s7:aJ G z (box b 171 [zS V m.length c45,zM (some a),zS r n.length u,Value.func (.func 101) #[] #[]]::box k 168 [zP (some ⟨b,0,none⟩)]::box k2 27 (zC o e1 e2 e3 e4)::aN 9 K f6 f7 f5::aN 141 K r u n::aN 9 K e1 e2 o.L::aN 66 K e3 e4 o.E::aN 56 z V c45 m::kQ a c7::box l 27 e::L) s6)=>(bB (aA ⟨aDQ rfl,?_⟩)))
    exact gU (by kernel_rfl) (aA ⟨aM,o.N,o.I,o.L,o.E,k2,e1,e2,e3,e4,hm,rfl,(aJ.arr 9 [6,5,2,4,7,8,0,1] s7 rfl)⟩)
   ·refine bZ (vs:=e) zeroValue27 g9 rfl (fun k4 a08 k6=>(bB (aA ⟨fun _=>⟨_,k6⟩,?_⟩)))
    refine cK (i:=14) (by kernel_rfl) rfl ?_;obtain ⟨a09,s8,s9,t0,t1⟩:=aJ.lendSp k6 (zL (zL b4 c9) b7) zt2
    obtain ⟨a11,t2,t3,t4,t5⟩:=aJ.lendSp t0 (zL (zL (zL b4 c9) b7) s8) zt1
    obtain ⟨p,t6,hm⟩:=aB hm
    refine aR (vs:=[i64 (m.length:Int),i64 0,zS f6 f5.length f7,zS r n.length u]) call56 rfl (tE t6 t4 (s9.mono t2) t3) ?_
    rintro _ a12 ⟨e5,e6,e7,e8,rfl,t7⟩
    have t8:=t5 _ _ t7
    have k7:=t1 _ _ t8
    refine bB (aA ⟨fun _=>⟨_,k7⟩,?_⟩)
    refine cK (i:=16) (by kernel_rfl) rfl ?_
    have t9:=g8 _ _ k7
    have u0:=g6 _ _ t9
    refine cA (i:=6) (ns:=(zC p e5 e6 e7 e8)) (us:=(zC p e5 e6 e7 e8)) sizeOf27 u0 rfl rfl rfl rfl rfl (cY rfl) rfl rfl (fun u1 (u2:aJ G z (box b 171 [zS V m.length c45,zM (some a),zS r n.length u,Value.func (.func 101) #[] #[]]::box k 168 [zP (some ⟨b,0,none⟩)]::aN 9 K f6 f7 f5::aN 141 K r u n::aN 9 K e5 e6 p.L::aN 66 K e7 e8 p.E::box k4 27 (zC p e5 e6 e7 e8)::aN 56 z V c45 m::kQ a c7::box l 27 e::L) u1)=>(bB (aA ⟨aDQ rfl,?_⟩)))
    exact gU (by kernel_rfl) (aA ⟨aM,p.N,p.I,p.L,p.E,k4,e5,e6,e7,e8,hm,rfl,(aJ.arr 9 [5,4,6,3,7,8,0,1] u2 rfl)⟩)
  ·refine bZ (vs:=e) zeroValue27 c rfl (fun k8 a13 k9=>(bB (aA ⟨fun _=>⟨_,k9⟩,?_⟩)))
   refine cK (i:=9) (by kernel_rfl) rfl ?_;obtain ⟨a14,a15,u3,u4,u5⟩:=aJ.lendSp k9 (zL (zL b4 c9) b7) zt1
   obtain ⟨l0,u6,hm⟩:=aB hm
   refine aR (vs:=[zS r n.length u]) call147 rfl (aBG u6 u4 u3) ?_
   rintro _ a16 ⟨l1,l2,rfl,u7⟩
   have l3:=u5 _ _ u7
   refine bB (aA ⟨fun _=>⟨_,l3⟩,?_⟩)
   refine cK (i:=14) (by kernel_rfl) rfl ?_;obtain ⟨a17,u8,u9,v0,v1⟩:=aJ.lendSp l3 (zL (zL b4 c9) b7) zt1
   obtain ⟨a18,v2,v3,v4,v5⟩:=aJ.lendSp v0 (zL (zL (zL b4 c9) b7) u8) .head
   obtain ⟨q,v6,hm⟩:=aB hm
   refine aR (vs:=[i64 (m.length:Int),i64 0,zS l1 l0.length l2,zS r n.length u]) call56 rfl (tE v6 v4 (u9.mono v2) v3) ?_
   rintro _ a19 ⟨e9,f0,f1,f2,rfl,v7⟩
   have v8:=v5 _ _ v7
   have l4:=v1 _ _ v8
   refine bB (aA ⟨fun _=>⟨_,l4⟩,?_⟩)
   refine cK (i:=16) (by kernel_rfl) rfl ?_
   have v9:=g8 _ _ l4
   have w0:=g6 _ _ v9
   refine cA (i:=6) (ns:=(zC q e9 f0 f1 f2)) (us:=(zC q e9 f0 f1 f2)) sizeOf27 w0 rfl rfl rfl rfl rfl (cY rfl) rfl rfl (fun w1 (w2:aJ G z (box b 171 [zS V m.length c45,zM (some a),zS r n.length u,Value.func (.func 101) #[] #[]]::box k 168 [zP (some ⟨b,0,none⟩)]::aN 9 K l1 l2 l0::aN 141 K r u n::aN 9 K e9 f0 q.L::aN 66 K f1 f2 q.E::box k8 27 (zC q e9 f0 f1 f2)::aN 56 z V c45 m::kQ a c7::box l 27 e::L) w1)=>(bB (aA ⟨aDQ rfl,?_⟩)))
   exact gU (by kernel_rfl) (aA ⟨aM,q.N,q.I,q.L,q.E,k8,e9,f0,f1,f2,hm,rfl,(aJ.arr 9 [5,4,6,3,7,8,0,1] w2 rfl)⟩)
 have w3:=aJ.nil (α:=oT) n7 141 K
 obtain ⟨a20,w4,ho⟩:=aB hm
 refine uW [2,6,9] w4 (fun Z d0 a3 c0 f w=>∃ d1 b0 b1 b2 b3 d3,Hp.le K d1/\f 10=zP (some ⟨d3,0,none⟩)/\aJ G d1 (aN 141 K b2 b3 a3::box d3 3 [i64 c0]::aN 56 d1 b0 b1 Z::kQ a d0::box b 171 [zS b0 Z.length b1,zM (some a),zS b2 a3.length b3,Value.func (.func 101) #[] #[]]::box k 168 [zP (some ⟨b,0,none⟩)]::box l 27 e::L) w) ?_ ?_
 ·exact ⟨K,g2,g3,none,0,j2,(zR _),rfl,(aJ.arr 5 [0,1,2,3] w3 rfl)⟩
 ·rintro Z d0 a3 c0 w5 f a21 hm hr ⟨d1,b0,b1,b2,b3,d3,d6,f8,b8⟩
  unfold sA at hm
  refine aO (aO (dO (C:=fun w'=>aJ G d1 (aN 141 K b2 b3 a3::box d3 3 [i64 c0]::aN 56 d1 b0 b1 Z::kQ a d0::box b 171 [zS b0 Z.length b1,zM (some a),zS b2 a3.length b3,Value.func (.func 101) #[] #[]]::box k 168 [zP (some ⟨b,0,none⟩)]::box l 27 e::L) w') bY (by kernel_rfl) (aJ.mono b8 (dK.drew _)) (bD (fun _ b8=>dC sc_3 b8 (i:=1) rfl f8 rfl) (bD (fun _ b8=>dC xR b8 (i:=5) rfl rfl rfl) (bD (fun _ b8=>iN rfl) (bD (fun _ b8=>bT (t':=0) vA rfl rfl) (bD (fun _ b8=>dC aEz b8 (i:=4) rfl rfl rfl) (bD (fun _ b8=>bO (len:=Z.length) kU rfl) (bD (fun _ b8=>cG rfl rfl) (dS (fun w6 l5=>(aA ?_))))))))))))
  rcases aH hm with ⟨h0,hm⟩|⟨h0,hm⟩
  ·refine aL h0 rfl (aU (aA (aO (cN (aO ?_)))));obtain ⟨d4,d5,h1,h2,_⟩:=aJ.lendBp l5 zt1
   replace h2:aJ G d4 (aN 141 K b2 b3 a3::aN 56 d1 b0 b1 Z::kQ a d0::box b 171 [zS b0 Z.length b1,zM (some a),zS b2 a3.length b3,Value.func (.func 101) #[] #[]]::box k 168 [zP (some ⟨b,0,none⟩)]::box l 27 e::L) w6:=h2
   refine xJ (C:=fun w'=>∃ L',aJ G d4 L' w') [] bY (by kernel_rfl) (fun l6 w7=>?_)
   have x:=aJ.mono h2 w7
   refine dZ (i:=0) rfl (by kernel_rfl) ⟨_,x⟩ (fun _ _=>bA (v:=Value.func (.func 103) #[] #[cS a4 k5]) rfl) (dZ (i:=5) rfl (by kernel_rfl) ⟨_,x⟩ (fun _ ⟨_,x⟩=>bG (t:=0) sc_3 x h1 (gY f8) rfl) (dZ (i:=8) rfl (by kernel_rfl) ⟨_,x⟩ (fun _ _=>nH (vs:=[zP (some ⟨k,0,none⟩),cS (some ⟨d3,0,none⟩) 0]) (lst2 rfl (gY f8))) (cK (i:=1) (by kernel_rfl) rfl (aC (dC xR x (i:=4) rfl rfl rfl) (bB (aA ⟨fun _=>⟨_,x⟩,?_⟩))))))
   refine dZ (i:=2) rfl (by kernel_rfl) ⟨_,x⟩ (fun _ _=>iN rfl) (dZ (i:=3) rfl (by kernel_rfl) ⟨_,x⟩ (fun _ _=>bT (t':=0) vA rfl rfl) (cK (i:=4) (by kernel_rfl) rfl (aC (dC aEz x (i:=3) rfl rfl rfl) (bB (aA ⟨fun _=>⟨_,x⟩,?_⟩)))))
   obtain ⟨h4,h5,hm⟩:=aB hm
   have w8:=cX x (i:=1) rfl h5
   refine dZ (i:=6) rfl (by kernel_rfl) ⟨_,x⟩ (fun _ _=>dD kU rfl w8 rfl rfl rfl h5) (cK (i:=7) (by kernel_rfl) rfl ?_);obtain ⟨a22,w9,x0⟩:=aFi (sz:=1) rfl x (i:=1) rfl h5
   obtain ⟨h7,h8,rfl,x1⟩:=x0
   refine aC (R_ldC (t:=0) (v:=zS h7 h4.length h8) aEx w9 rfl rfl) (bB (aA ⟨fun _=>⟨_,x⟩,?_⟩))
   refine cK (i:=9) (by kernel_rfl) rfl ?_
   have x2:aJ G d4 (aN 141 K b2 b3 a3::aN 56 d4 b0 b1 Z::kQ a d0::box b 171 [zS b0 Z.length b1,zM (some a),zS b2 a3.length b3,Value.func (.func 101) #[] #[]]::box k 168 [zP (some ⟨b,0,none⟩)]::box l 27 e::L) l6:=aJ.weak (i:=1) x rfl (fun _ h=>aN.mono d5 h)
   have x3:aJ G d4 (aN 56 d4 b0 b1 Z::kQ a d0::aN 141 K b2 b3 a3::box b 171 [zS b0 Z.length b1,zM (some a),zS b2 a3.length b3,Value.func (.func 101) #[] #[]]::box k 168 [zP (some ⟨b,0,none⟩)]::box l 27 e::L) l6:=(aJ.arr 3 [1,2,0] x2 rfl)
   obtain ⟨d,x4,hm⟩:=aB hm
   refine kG (vs:=[zS h7 h4.length h8,Value.func (.func 146) #[] #[zP (some ⟨k,0,none⟩),cS (some ⟨d3,0,none⟩) 0]]) (caps:=[cS a4 k5]) (us:=[zS h7 h4.length h8,Value.func (.func 146) #[] #[zP (some ⟨k,0,none⟩),cS (some ⟨d3,0,none⟩) 0],cS a4 k5]) rfl call103 rfl rfl (yN (Kf:=d4) x4 x3 hG (zR _) (x1.mono d5) h1 (h6.mono (zL d6 d5)) (h9.mono (zL d6 d5)) (m4.mono (zL d6 d5))) ?_
   rintro _ a23 ⟨b9,c3,c4,c5,c6,rfl,f3,d7⟩
   refine bB (aA ⟨fun _=>⟨_,(aJ.weakK d7 f3)⟩,?_⟩)
   refine dZ (i:=10) rfl (by kernel_rfl) ⟨_,(aJ.weakK d7 f3)⟩ (fun _ _=>cZ (v:=zB d.1) rfl) (gU (by kernel_rfl) (aA (aO (cP [2,6,9,10] (fun f w=>∃ i0,jY c0 d i0=some w5/\f 48=zB i0/\aJ G b9 (aN 56 b9 c3 c4 d.2.1::kQ a d.2.2.1::aN 141 K c5 c6 d.2.2.2::box b 171 [zS c3 d.2.1.length c4,zM (some a),zS c5 d.2.2.2.length c6,Value.func (.func 101) #[] #[]]::box k 168 [zP (some ⟨b,0,none⟩)]::box l 27 e::L) w) ?_ ?_))))
   ·rintro f a24 ⟨i0,hm,l7,i1⟩
    unfold jY at hm
    refine aA ?_
    rcases aH hm with ⟨i2,hm⟩|⟨i2,hm⟩
    ·refine aL i2 l7 (aK (aC (dF (vs:=[]) (cs:=e) mQ rfl (by kernel_rfl)) (cA (i:=5) (ns:=e) (us:=e) sizeOf27 i1 rfl rfl rfl rfl rfl (cY rfl) rfl rfl (fun x5 (x6:aJ G b9 (aN 56 b9 c3 c4 d.2.1::kQ a d.2.2.1::aN 141 K c5 c6 d.2.2.2::box b 171 [zS c3 d.2.1.length c4,zM (some a),zS c5 d.2.2.2.length c6,Value.func (.func 101) #[] #[]]::box k 168 [zP (some ⟨b,0,none⟩)]::box l 27 e::L) x5)=>(aD (v:=zS none 0 0) (aD (v:=zB false) (aG (bH (bM (aQ (aQ ?_)))))))))))
     have x7:=hr _ (zI hm).symm
     subst x7
     have hm:(some (⟨0,0,[],[]⟩,[],false))=some R:=ho
     clear hr ho
     have x8:=aJ.nil (α:=aZ) x6 9 K
     have x9:=aJ.nil (α:=Edge) x8 66 K
     have l8:=aJ.nil (α:=(List Int)) x9 56 b9
     obtain rfl:=zI hm
     exact bM (aQ (aQ (aAR results100 (fK (vs:=e) rfl cV l8 (i:=8) rfl rfl rfl) (mO rfl rfl) (mO rfl rfl) ⟨b9,none,0,none,0,none,0,rfl,(zL (zL d6 d5) f3),(aJ.arr 9 [2,1,0] l8 rfl)⟩)))
    ·exact aI i2 l7 (aU (aX (aA (aO (aK (aC (bG (t:=0) sc_3 i1 (h1.mono f3) (gY f8) rfl) (aG (aP (bZ (vs:=[i64 0]) zeroValue3 i1 rfl (fun i3 a25 y1=>(cA (i:=0) (ns:=[i64 c0]) (us:=[i64 c0]) sizeOf3 y1 rfl rfl rfl rfl rfl (cY rfl) rfl rfl (fun y2 (l9:aJ G b9 (box i3 3 [i64 c0]::aN 56 b9 c3 c4 d.2.1::kQ a d.2.2.1::aN 141 K c5 c6 d.2.2.2::box b 171 [zS c3 d.2.1.length c4,zM (some a),zS c5 d.2.2.2.length c6,Value.func (.func 101) #[] #[]]::box k 168 [zP (some ⟨b,0,none⟩)]::box l 27 e::L) y2)=>(aG (aP (aC (dC sc_3 l9 (i:=0) rfl rfl rfl) (aC (cE rfl rfl) (cA (i:=0) (ns:=[i64 (wr (c0+1))]) (us:=[i64 (wr (c0+1))]) sizeOf3 l9 rfl rfl rfl rfl rfl (cY rfl) rfl rfl (fun y3 (y4:aJ G b9 (box i3 3 [i64 (wr (c0+1))]::aN 56 b9 c3 c4 d.2.1::kQ a d.2.2.1::aN 141 K c5 c6 d.2.2.2::box b 171 [zS c3 d.2.1.length c4,zM (some a),zS c5 d.2.2.2.length c6,Value.func (.func 101) #[] #[]]::box k 168 [zP (some ⟨b,0,none⟩)]::box l 27 e::L) y3)=>(aG ⟨_,(zI hm).symm,aM,b9,c3,c4,c5,c6,i3,(zL (zL d6 d5) f3),rfl,(aJ.arr 4 [3,0,1,2] y4 rfl)⟩)))))))))))))))))))
   refine aP (aF (v:=zB d.1) (aC (dE rfl) (aF (v:=zB (!d.1)) ?_)))
   rcases aH hm with ⟨y,hm⟩|⟨y,hm⟩
   ·exact bC y rfl rfl (bC y rfl rfl (bC y rfl rfl (bC y rfl rfl (bC y rfl rfl (bC y rfl rfl (aC (bL (v:=zB true) y rfl rfl) (aG ⟨aM,true,hm,rfl,d7⟩)))))))
   ·exact bK y rfl rfl (aC (dC xR d7 (i:=4) rfl rfl rfl) (bK y rfl rfl (aC (iN rfl) (bK y rfl rfl (aC (bT (t':=0) vA rfl rfl) (bK y rfl rfl (aC (dC aEz d7 (i:=3) rfl rfl rfl) (bK y rfl rfl (aC (bO (len:=d.2.1.length) kU rfl) (bK y rfl rfl (aC (kC rfl rfl) (aC (bP (v:=zB (decide (40 < (d.2.1.length:Int)))) y rfl rfl) (aG ⟨aM,decide (40 < (d.2.1.length:Int)),hm,rfl,d7⟩)))))))))))))
  ·refine aI h0 rfl (bV (aT (aT ?_)))
   have y5:=hr _ (zI hm).symm
   subst y5
   have hm:(jX Z d0 a3)=some R:=ho
   clear hr ho
   exact bJ (aA ⟨aM,d1,Z,d0,a3,b0,b1,b2,b3,d6,hm,(aJ.arr 2 [0] l5 rfl)⟩)
theorem mA {t:cI} {R:(cI × (List (List Int)) × Bool)} (hm:kW t=some R) (hs:aJ G K (L) w) (hG:G.lo=0) (h3:cF K a1 c2 t.L) (h6:cF K a4 c5 t.E):
  Calls prog 52 ([zA (zCa t a1 c2 a4 c5)]:List Value).toArray w (eH fun v w'=>∃ K' b0 b1 b2 b3 b4 b5,v=zT #[zA (zCa R.1 b0 b1 b2 b3),zS b4 R.2.1.length b5,zB R.2.2]/\Hp.le K K'/\aJ G K' (aN 9 K b0 b1 R.1.L::aN 66 K b2 b3 R.1.E::aN 56 K' b4 b5 R.2.1::L) w'):=by
 let c:=zG
 let V:=(zC t a1 c2 a4 c5)
 refine aS func52 rfl (by kernel_rfl) (by show (1:Nat)<=30;decide) ?_;unfold kW at hm
 refine aK (fJ (v:=zA (zCa t a1 c2 a4 c5)) (vs:=V) hs rfl rfl (fun Z w8 d6=>(bZ (vs:=c) zeroValue27 d6 rfl (fun q i4 a3=>(aD (v:=zS none 0 0) (aD (v:=zB false) (aG (aK (aC (dI (us:=V) cV a3 (i:=1) rfl rfl rfl rfl) (aC (bT (t':=1) mR rfl rfl) (aC (dC cQ a3 (i:=1) rfl rfl rfl) (cB (Kt:=K) (xs:=([t.I]:List Int)) (cs:=[i64 t.I]) (vs:=[(0,i64 t.I)]) cC iV rfl rfl a3 rfl (by kernel_rfl) rfl rfl rfl ⟨rfl,trivial⟩ (fun o d7 (d8:aJ G K (aN 2 K o 1 ([t.I]:List Int)::box q 27 c::box Z 27 V::L) d7)=>?_)))))))))))))
 obtain ⟨i5,b6,d9,e0,e1⟩:=aJ.lendSp d8 (zR _) .head
 obtain ⟨e2,e3,hm⟩:=aB hm
 refine aR (vs:=[zA (zCa t a1 c2 a4 c5),zS o ([t.I]:List Int).length 1]) call70 rfl (oS e3 e0 (h3.mono b6) (h6.mono b6) d9) ?_
 rintro _ b8 ⟨e4,e5,rfl,e6⟩
 have e7:=e1 _ _ e6
 refine aC (nH (vs:=[zP (some ⟨Z,0,none⟩)]) rfl) ?_;obtain ⟨e8,k,e9,a5⟩:=aJ.giveSp e7 (zR _) zt1
 replace a5:aJ G e8 (aN 2 K o 1 ([t.I]:List Int)::box q 27 c::box Z 27 V::L) b8:=a5
 obtain ⟨f0,j,a6,a7,_⟩:=aJ.lendBp a5 zt2
 replace a7:aJ G f0 (aN 2 K o 1 ([t.I]:List Int)::box q 27 c::L) b8:=a7
 obtain ⟨a,f1,hm⟩:=aB hm
 refine aR (vs:=[zS e4 e2.length e5,Value.func (.func 101) #[] #[],Value.func (.func 103) #[] #[cS (some ⟨Z,0,none⟩) 0]]) call100 rfl (aAr f1 a7 hG (e9.mono j) a6 (h3.mono (zL k j)) (h6.mono (zL k j))) ?_
 rintro _ i6 ⟨l,d,e,g,h,m,c45,rfl,n,f2⟩
 refine aF (v:=zT #[zA (zCa a.1 d e g h),zS m a.2.1.length c45,zB a.2.2]) (aC (bS rfl rfl) (aC (bS rfl rfl) (aC (bS rfl rfl) (bZ (vs:=c) zeroValue27 f2 rfl (fun b9 i7 f3=>(cA (i:=0) (ns:=(zC a.1 d e g h)) (us:=(zC a.1 d e g h)) sizeOf27 f3 rfl rfl rfl rfl rfl (cY rfl) rfl rfl (fun f4 (c0:aJ G l (box b9 27 (zC a.1 d e g h)::aN 9 K d e a.1.L::aN 66 K g h a.1.E::aN 56 l m c45 a.2.1::aN 2 K o 1 ([t.I]:List Int)::box q 27 c::L) f4)=>(aD (v:=zS m a.2.1.length c45) (aD (v:=zB a.2.2) (aG (aO (aK (aF (v:=zB a.2.2) (aC (dE rfl) (aG ?_)))))))))))))))
 rcases aH hm with ⟨a8,hm⟩|⟨a8,hm⟩
 ·refine aL a8 rfl (aK (aC (dF (vs:=[]) (cs:=c) mQ rfl (by kernel_rfl)) (cA (i:=5) (ns:=c) (us:=c) sizeOf27 c0 rfl rfl rfl rfl rfl (cY rfl) rfl rfl (fun f5 (f6:aJ G l (box b9 27 (zC a.1 d e g h)::aN 9 K d e a.1.L::aN 66 K g h a.1.E::aN 56 l m c45 a.2.1::aN 2 K o 1 ([t.I]:List Int)::box q 27 c::L) f5)=>(aD (v:=zS none 0 0) (aD (v:=zB false) (aG ?_)))))))
  have f7:=aJ.nil (α:=aZ) f6 9 K
  have f8:=aJ.nil (α:=Edge) f7 66 K
  have c1:=aJ.nil (α:=(List Int)) f8 56 l
  obtain rfl:=zI hm
  exact bH (aQ (aAR results52 (fK (vs:=c) rfl cV c1 (i:=8) rfl rfl rfl) (mO rfl rfl) (mO rfl rfl) ⟨l,none,0,none,0,none,0,rfl,(zL (zL k j) n),(aJ.arr 9 [2,1,0] c1 rfl)⟩))
 ·refine aI a8 rfl (aU (aA (aO ?_)));obtain ⟨c3,r,c4,c6,g0⟩:=aJ.lendBp c0 .head
  refine dT (C:=fun w'=>∃ L',aJ G c3 L' w') [(0,0),(1,0),(2,0),(3,0),(4,0),(7,0),(5,1),(6,1),(8,1),(9,2),(10,2)] bY (by kernel_rfl) (fun _ hg=>⟨_,aJ.mono c6 hg⟩) (fun i8 g1=>?_)
  have p:=aJ.mono c6 g1
  refine bQ rfl (fun _ _=>bT (t':=0) fW rfl rfl) (bQ rfl (fun _ ⟨_,p⟩=>bG (t:=0) cQ p c4 rfl rfl) (bQ rfl (fun _ _=>bU (k':=0+2) eU (gY rfl) (a6.mono (zL n r)) rfl) (bQ rfl (fun _ ⟨_,p⟩=>bG (t:=2) eR p (a6.mono (zL n r)) rfl rfl) (bQ rfl (fun _ ⟨_,p⟩=>eI (t:=0) (vs:=(zC a.1 d e g h)) cV p c4 rfl rfl rfl) (bQ rfl (fun _ _=>bA (v:=zS m a.2.1.length c45) rfl) (jE rfl ?_))))));obtain ⟨i9,g2,g3,g4,g5⟩:=aJ.lendSp p (zL (zL (zL k j) n) r) .head
  obtain ⟨j0,g6,g7,g8,g9⟩:=aJ.lendSp g4 (zL (zL (zL (zL k j) n) r) g2) .head
  obtain ⟨c7,h0,hm⟩:=aB hm
  refine aR (vs:=[zA (zCa a.1 d e g h)]) call104 rfl (aGr h0 g8 (g3.mono g6) g7) ?_
  rintro _ j1 ⟨c8,c9,rfl,h1⟩
  have h2:=g9 _ _ h1
  have d0:=g5 _ _ h2
  refine bB (aA ⟨⟨_,d0⟩,?_⟩)
  refine jE rfl ?_;obtain ⟨j2,h4,h5,h7,h8⟩:=aJ.lendSp d0 (zL (zL (zL k j) n) r) zt2
  obtain ⟨b,h9,hm⟩:=aB hm
  refine aR (vs:=[i64 a.1.N,i64 0,zS a1 t.L.length c2,zS c8 c7.length c9]) call56 rfl (tE h9 h7 (h3.mono (zL (zL (zL (zL k j) n) r) h4)) h5) ?_
  rintro _ j3 ⟨u,x,y,z,rfl,i0⟩
  have d1:=h8 _ _ i0
  refine bB (aA ⟨⟨_,d1⟩,?_⟩)
  refine jE rfl (cA (i:=7) (ns:=(zC b u x y z)) (us:=(zC b u x y z)) sizeOf27 d1 rfl rfl rfl rfl rfl (cY rfl) rfl rfl (fun i1 (d2:aJ G c3 (aN 141 K c8 c9 c7::aN 9 K u x b.L::aN 66 K y z b.E::aN 9 K d e a.1.L::aN 66 K g h a.1.E::aN 56 l m c45 a.2.1::aN 2 K o 1 ([t.I]:List Int)::box q 27 (zC b u x y z)::L) i1)=>(bB (aA ⟨⟨_,d2⟩,?_⟩))))
  have d3:=g0 _ _ d2
  refine aGh rfl (aD (v:=zS m a.2.1.length c45) (aG (aGh rfl (aD (v:=zB true) (aG (iO (aA ?_)))))));obtain rfl:=zI hm
  exact bH (aAR results52 (fK (vs:=(zC b u x y z)) rfl cV d3 (i:=8) rfl rfl rfl) (mO rfl rfl) (mO rfl rfl) ⟨l,u,x,y,z,m,c45,rfl,(zL (zL k j) n),(aJ.arr 9 [2,3,6] d3 rfl)⟩)
theorem mF {t:cI} {k:Int} {a:aZ} {R:Int} (hm:aBa t k a=some R) (p:aJ G K (L) w) (q:cF K a1 c2 t.L) (r:cF K a4 c5 t.E):
  Calls prog 105 ([zA (zCa t a1 c2 a4 c5),i64 k,str a]:List Value).toArray w (eH fun v w'=>v=i64 R/\aJ G K (L) w'):=by
 let d:=(zC t a1 c2 a4 c5)
 refine aS func105 rfl (by kernel_rfl) (by show (3:Nat)<=21;decide) ?_;unfold aBa at hm
 refine aK (fJ (v:=zA (zCa t a1 c2 a4 c5)) (vs:=d) p rfl rfl (fun u w8 e=>(aD (v:=i64 0) (aG (aO (aK (aF (v:=i64 k) (aC (cG rfl rfl) (aG ?_)))))))))
 rcases aH hm with ⟨g,hm⟩|⟨g,hm⟩
 ·refine aL g rfl (aK (aD (v:=i64 (-1)) (aG ?_)));obtain rfl:=zI hm
  exact bH (aQ (bI results105 rfl ⟨rfl,(aJ.arr 1 [] e rfl)⟩))
 ·refine aI g rfl (aU (aA (aO (aK (aC (dI (us:=d) cV e (i:=0) rfl rfl rfl rfl) (aF (v:=i64 k) (cB (Kt:=K) (xs:=([k]:List Int)) (cs:=[i64 k]) (vs:=[(0,i64 k)]) cC iV rfl rfl e rfl (by kernel_rfl) rfl rfl rfl ⟨rfl,trivial⟩ (fun n y (z:aJ G K (aN 2 K n 1 ([k]:List Int)::box u 27 d::L) y)=>(aF (v:=str a) ?_)))))))));obtain ⟨b0,o,V,Z,a0⟩:=aJ.lendSp z (zR _) .head
  obtain ⟨b,a2,hm⟩:=aB hm
  refine aR (vs:=[zA (zCa t a1 c2 a4 c5),zS n ([k]:List Int).length 1,str a]) call123 rfl (sV a2 Z (q.mono o) (r.mono o) V) ?_
  rintro _ b1 ⟨h,j,rfl,a3⟩
  have c:=a0 _ _ a3
  refine aD (v:=zS h b.length j) (aG (aK (aF (v:=zS h b.length j) (aC (bO (len:=b.length) cC rfl) (aC (kC rfl rfl) (aG ?_))))))
  rcases aH hm with ⟨l,hm⟩|⟨l,hm⟩
  ·refine aL l rfl (aK (aF (v:=zS h b.length j) ?_));obtain ⟨a5,m,hm⟩:=aB hm
   have a6:=cX c (i:=1) rfl m
   refine aC (dD cC rfl a6 rfl rfl rfl m) (aC (gX (t:=0) cQ c (i:=1) rfl m rfl rfl rfl) (aD (v:=i64 a5) (aG ?_)));obtain rfl:=zI hm
   exact bH (aQ (bI results105 rfl ⟨rfl,(aJ.arr 3 [] c rfl)⟩))
  ·refine aI l rfl (aU (aA (aK (aD (v:=i64 (-1)) (aG ?_)))));obtain rfl:=zI hm
   exact bH (bI results105 rfl ⟨rfl,(aJ.arr 3 [] c rfl)⟩)
theorem aCI {t:cI} {k:Int} {R:(List Edge)} (hm:aCX t k=some R) (hs:aJ G K (L) w) (h3:cF K a1 c2 t.L) (h6:cF K a4 c5 t.E):
  Calls prog 29 ([zA (zCa t a1 c2 a4 c5),i64 k]:List Value).toArray w (eH fun v w'=>∃ a3 a5,v=zS a3 R.length a5/\aJ G K (aN 66 K a3 a5 R::L) w'):=by
 refine aS func29 rfl (by kernel_rfl) (by show (2:Nat)<=25;decide) ?_;unfold aCX at hm
 refine aK (fJ (v:=zA (zCa t a1 c2 a4 c5)) (vs:=(zC t a1 c2 a4 c5)) hs rfl rfl (fun b7 w8 a6=>(aD (v:=zS none 0 0) (aG (aK (aD (v:=zS none 0 0) (aG (aO (aK (aC (bT (t':=3) cU rfl rfl) (aC (dC eS a6 (i:=0) rfl rfl rfl) (aC (bO (len:=t.E.length) cL rfl) (aF (v:=i64 0) (aG (aW [] (fun f w=>∃ e g j,xB e=some R/\f 5=zS g e.length j/\aJ G K (aN 66 K g j e::L) w) ?_ ?_)))))))))))))))
 ·rintro f d4 ⟨e,g,j,hm,a9,b0⟩
  unfold xB at hm
  refine aA (aK (aY a9 (aD (v:=zS g e.length j) (aG ?_))));obtain rfl:=zI hm
  exact bH (bI results29 rfl ⟨g,j,rfl,b0⟩)
 have b2:=aJ.nil (α:=Edge) a6 66 K
 obtain ⟨d5,b3,ho⟩:=aB hm
 refine cJ [1,9,10] b3 (fun b l f w=>∃ c d,f 5=zS c b.length d/\f 11=i64 l/\aJ G K (aN 66 K c d b::L) w) ?_ ?_
 ·exact ⟨none,0,rfl,rfl,(aJ.arr 2 [0] b2 rfl)⟩
 ·rintro b l b4 f d6 hm hr ⟨c,d,q,r,u⟩
  unfold aEW at hm
  refine aK (aC (cG r rfl) (aG (aO ?_)))
  rcases aH hm with ⟨x,hm⟩|⟨x,hm⟩
  ·refine aL x rfl (aU (aA (aO (aW [1,9,10,11] (fun f w=>∃ m n o,xC l m=some b4/\f 5=zS n m.length o/\aJ G K (aN 66 K n o m::L) w) ?_ ?_))))
   ·rintro f d7 ⟨m,n,o,hm,b5,b6⟩
    unfold xC at hm
    exact aA (aP (aC (cE r rfl) (aF (v:=i64 (wr (l+1))) (aG ⟨_,(zI hm).symm,aM,n,o,b5,rfl,b6⟩))))
   refine aK ?_;obtain ⟨a,a7,hm⟩:=aB hm
   refine aC (cT cL rfl h6 rfl rfl r a7) ?_;obtain ⟨d8,b8,b9⟩:=cF.el (sz:=3) rfl h6 a7
   cases b9
   refine aC (eI (t:=0) (vs:=[i64 a.F,i64 a.B,i64 a.To]) kD u b8 rfl rfl rfl) (bZ (vs:=[i64 0,i64 0,i64 0]) zeroValue66 u rfl (fun y d9 c0=>(cA (i:=0) (ns:=[i64 a.F,i64 a.B,i64 a.To]) (us:=[i64 a.F,i64 a.B,i64 a.To]) sizeOf66 c0 rfl rfl rfl rfl rfl (cY rfl) rfl rfl (fun c1 (p:aJ G K (box y 66 [i64 a.F,i64 a.B,i64 a.To]::aN 66 K c d b::L) c1)=>(aG (aK (aC (bT (t':=0) gP rfl rfl) (aC (dC cQ p (i:=0) rfl rfl rfl) (aF (v:=i64 k) (aC (fA rfl rfl) (aG ?_)))))))))))
   rcases aH hm with ⟨z,hm⟩|⟨z,hm⟩
   ·refine aL z rfl (aP (aY q (aC (dI (us:=[i64 a.F,i64 a.B,i64 a.To]) kD p (i:=0) rfl rfl rfl rfl) (cB (Kt:=K) (xs:=([a]:List Edge)) (cs:=[i64 a.F,i64 a.B,i64 a.To]) (vs:=[(0,zA #[i64 a.F,i64 a.B,i64 a.To])]) cL gC rfl rfl p rfl (by kernel_rfl) rfl rfl rfl ⟨rfl,trivial⟩ (fun c3 c4 (c6:aJ G K (aN 66 K c3 1 ([a]:List Edge)::box y 66 [i64 a.F,i64 a.B,i64 a.To]::aN 66 K c d b::L) c4)=>?_)))));obtain ⟨V,c7,hm⟩:=aB hm
    exact dG (i:=1) cL underlying25 gC rfl rfl c6 rfl (zR _) (zR _) c7 rfl rfl rfl rfl (fun _ h=>h) (fun Z a0 c8 (c9:aJ G K (box y 66 [i64 a.F,i64 a.B,i64 a.To]::aN 66 K Z a0 V::L) c8)=>(aD (v:=zS Z V.length a0) (bB (aX (aA ⟨aM,V,Z,a0,hm,rfl,(aJ.arr 1 [] c9 rfl)⟩)))))
   ·exact aI z rfl (aU (aX (aA ⟨aM,b,c,d,hm,q,(aJ.arr 1 [] p rfl)⟩)))
  ·refine aI x rfl (bV (aT (aT ?_)))
   have d0:=hr _ (zI hm).symm
   subst d0
   have hm:(xB b)=some R:=ho
   clear hr ho
   exact bJ (aA ⟨aM,b,c,d,hm,q,u⟩)
end Gv
