/- Walks, printed by program. -/
import Derived.Test.YtokmmhfhaoanmaaGreatDoorJWk3
set_option linter.all false
namespace Gv
open Gv.Hp renaming le_refl→zR
open Go.Value renaming slice→zS,bool→zB
open Option.some renaming inj→zI
open Gv.Hp renaming le_trans→zL
open Go Go.Proofs Go.Proofs.Tryz
set_option maxRecDepth 20000
set_option maxHeartbeats 40000000
variable {G:mL} {K:Hp} {L:List eU} {w:World} {a1 a4 a7 a10 a13 a16 a19:Option Addr} {c5 c8 c11 c14 c17 c20 c2:Nat}
theorem aHJ {s_:aR} {k2:Nat} {a3:(List GPoint)} {R:((List aN) × Bool)} (hm:rD s_ a3=some R) (hs:aD G K (L) w) (h3:eM K a1 k2 [zS a4 s_.Definitions.length c5,zS a7 s_.Components.length c8,zS a10 s_.Meetings.length c11,zS a13 s_.Allowed.length c14,zS a16 s_.Hidden.length c17]) (h6:aW K a4 c5 s_.Definitions) (h9:aW K a7 c8 s_.Components) (j9:aW K a10 c11 s_.Meetings) (f4:aW K a13 c14 s_.Allowed) (k0:aW K a16 c17 s_.Hidden) (k1:aW K a19 c20 a3):
  Calls prog 68 ([fL a1 k2,zS a19 a3.length c20]:List Value).toArray w (cN fun v w'=>∃ K' o6 o7,v=Value.tuple #[zS o6 R.1.length o7,zB R.2]/\Hp.le K K'/\aD G K' (aJ 105 K' o6 o7 R.1::L) w'):=by
 refine cC func68 ?_;unfold rD at hm
 refine aC ?_;refine fQ (Kt:=K) (xs:=([]:List aN)) (cs:=[]) (vs:=[]) aFv aNe rfl rfl hs rfl (by kernel_rfl) rfl rfl rfl trivial (fun a5 t4 (t5:aD G K (aJ 105 K a5 0 ([]:List aN)::L) t4)=>(aC ?_))
 refine fQ (Kt:=K) (xs:=([]:List (List bF))) (cs:=[]) (vs:=[]) vC aNf rfl rfl t5 rfl (by kernel_rfl) rfl rfl rfl trivial (fun o8 t6 (t7:aD G K (aJ 151 K o8 0 ([]:List (List bF))::aJ 105 K a5 0 ([]:List aN)::L) t6)=>(aC ?_));refine aI [0,1,6] (fun f w=>∃ a b c d,Hp.le K a/\kY s_ a3 b=some R/\f 7=zS c b.length d/\aD G a (aJ 151 a c d b::aJ 105 K a5 0 ([]:List aN)::L) w) ?_ ?_
 ·rintro f t8 ⟨a,b,c,d,g,hm,e33,t9⟩
  unfold kY at hm
  refine aC ?_;refine aI [0,1,7] (fun f w=>∃ c9 f5 k4 k5,Hp.le a c9/\mR s_ a3 b f5=some R/\f 6=zS k4 f5.length k5/\aD G c9 (aJ 105 c9 k4 k5 f5::aJ 151 a c d b::L) w) ?_ ?_
  ·rintro f w42 ⟨c9,f5,k4,k5,o,hm,e41,b17⟩
   unfold mR at hm
   refine aC ?_;refine aI [] (fun f w=>∃ d7 f6 f7 c48,Hp.le c9 d7/\vS f6=some R/\f 6=zS f7 f6.length c48/\aD G d7 (aJ 105 d7 f7 c48 f6::L) w) ?_ ?_
   ·rintro f w50 ⟨d7,f6,f7,c48,u0,hm,e49,u1⟩
    unfold vS at hm
    refine aC ?_;obtain rfl:=zI hm
    exact aDC (aOQ results68 rfl rfl ⟨d7,f7,c48,rfl,(zL (zL g o) u0),u1⟩)
   obtain ⟨b20,u3,ho⟩:=aB hm
   refine bJ [0,1,7] u3 (fun d8 a6 f w=>∃ b2 f8 f9,Hp.le c9 b2/\f 6=zS f8 d8.length f9/\f 15=i64 a6/\aD G b2 (aJ 105 b2 f8 f9 d8::aJ 151 a c d b::L) w) aF ?_
   ·rintro d8 a6 k6 f w75 hm hr ⟨b2,f8,f9,j,u4,e74,b23⟩
    unfold mQ at hm
    refine aC ?_
    rcases aG hm with ⟨u5,hm⟩|⟨u5,hm⟩
    ·refine aC ?_;refine aI [0,1,7,15] (fun f w=>∃ d9 g0 g1 g2,Hp.le b2 d9/\aBu a6 g0=some k6/\f 6=zS g1 g0.length g2/\aD G d9 (aJ 105 d9 g1 g2 g0::aJ 151 a c d b::L) w) ?_ ?_
     ·rintro f w95 ⟨d9,g0,g1,g2,u6,hm,u7,u8⟩
      unfold aBu at hm
      refine aC ?_;exact ⟨_,(zI hm).symm,bO,d9,g1,g2,(zL j u6),u7,rfl,u8⟩
     refine aC ?_;refine aI [0,1,7,15] (fun f w=>∃ k7 k8 o9 p0,Hp.le b2 k7/\vT a6 k8=some k6/\f 6=zS o9 k8.length p0/\aD G k7 (aJ 105 k7 o9 p0 k8::aJ 151 a c d b::L) w) aF ?_
     obtain ⟨b25,u9,ho⟩:=aB hm
     refine bJ [0,1,7,15] u9 (fun e0 a8 f w=>∃ b3 g3 g4,Hp.le b2 b3/\f 6=zS g3 e0.length g4/\f 16=i64 a8/\aD G b3 (aJ 105 b3 g3 g4 e0::aJ 151 a c d b::L) w) aF ?_
     ·rintro e0 a8 k9 f b26 hm hr ⟨b3,g3,g4,k,v0,b27,v1⟩
      unfold kX at hm
      refine aC ?_
      rcases aG hm with ⟨v2,hm⟩|⟨v2,hm⟩
      ·refine aC ?_;refine aI [0,1,7,15,16] (fun f w=>∃ e1 g5 g6 g7,Hp.le b3 e1/\aBv a8 g5=some k9/\f 6=zS g6 g5.length g7/\aD G e1 (aJ 105 e1 g6 g7 g5::aJ 151 a c d b::L) w) ?_ ?_
       ·rintro f b28 ⟨e1,g5,g6,g7,v3,hm,v4,v5⟩
        unfold aBv at hm
        refine aC ?_;exact ⟨_,(zI hm).symm,bO,e1,g6,g7,(zL k v3),v4,rfl,v5⟩
       refine aC ?_;refine aI [0,1,7,15,16] (fun f w=>∃ l0 l1 p1 p2,Hp.le b3 l0/\vU a8 l1=some k9/\f 6=zS p1 l1.length p2/\aD G l0 (aJ 105 l0 p1 p2 l1::aJ 151 a c d b::L) w) aF ?_
       obtain ⟨b29,v6,ho⟩:=aB hm
       refine bJ [0,1,7,15,16] v6 (fun e2 d0 f w=>∃ b4 g8 g9,Hp.le b3 b4/\f 6=zS g8 e2.length g9/\f 17=i64 d0/\aD G b4 (aJ 105 b4 g8 g9 e2::aJ 151 a c d b::L) w) aF ?_
       ·rintro e2 d0 l2 f b30 hm hr ⟨b4,g8,g9,l,v7,b31,l3⟩
        unfold jG at hm
        refine aC ?_;obtain ⟨l4,c0,hm⟩:=aB hm
        have d1:=cG l3 (i:=1) rfl c0
        refine aL (dG vC rfl d1 rfl rfl rfl c0) ?_;obtain ⟨b32,v8,v9⟩:=oS (sz:=1) rfl l3 (i:=1) rfl c0
        obtain ⟨w0,w1,rfl,b33⟩:=v9
        refine aL (aAJ (t:=0) (v:=zS w0 l4.length w1) aKI v8 rfl rfl) (aC ?_)
        rcases aG hm with ⟨w2,hm⟩|⟨w2,hm⟩
        ·refine aC ?_;refine aI [0,1,7,15,16,17] (fun f w=>∃ e3 h0 h1 h2,Hp.le b4 e3/\aBw d0 h0=some l2/\f 6=zS h1 h0.length h2/\aD G e3 (aJ 105 e3 h1 h2 h0::aJ 151 a c d b::L) w) ?_ ?_
         ·rintro f b34 ⟨e3,h0,h1,h2,w3,hm,w4,w5⟩
          unfold aBw at hm
          refine aC ?_;exact ⟨_,(zI hm).symm,bO,e3,h1,h2,(zL l w3),w4,rfl,w5⟩
         refine aC ?_;refine aI [0,1,7,15,16,17] (fun f w=>∃ l5 l6 p3 p4,Hp.le b4 l5/\vV d0 l6=some l2/\f 6=zS p3 l6.length p4/\aD G l5 (aJ 105 l5 p3 p4 l6::aJ 151 a c d b::L) w) aF ?_
         obtain ⟨b35,w6,ho⟩:=aB hm
         refine bJ [0,1,7,15,16,17] w6 (fun p h4 f w=>∃ q u x,Hp.le b4 q/\f 6=zS u p.length x/\f 18=i64 h4/\aD G q (aJ 105 q u x p::aJ 151 a c d b::L) w) aF ?_
         ·rintro p h4 p5 f b36 hm hr ⟨q,u,x,m,p6,b37,l7⟩
          unfold iP at hm
          iterate 2 refine cV ?_
          refine bC [0,1,6,7,15,16,17,18] (fun f w=>∃ l8,oV s_ a3 b a6 a8 d0 l4 p h4 l8=some p5/\f 133=zB l8/\aD G q (aJ 105 q u x p::aJ 151 a c d b::L) w) ?_ ?_
          ·rintro f b38 ⟨l8,hm,b39,p7⟩
           unfold oV at hm
           refine aC ?_
           rcases aG hm with ⟨w7,hm⟩|⟨w7,hm⟩
           ·refine aC ?_;refine aI [0,1,7,15,16,17,18] (fun f w=>∃ e4 h5 h7 h8,Hp.le q e4/\vW h4 h5=some p5/\f 6=zS h7 h5.length h8/\aD G e4 (aJ 105 e4 h7 h8 h5::aJ 151 a c d b::L) w) ?_ ?_
            ·rintro f b40 ⟨e4,h5,h7,h8,w8,hm,w9,x0⟩
             unfold vW at hm
             refine aC ?_;exact ⟨_,(zI hm).symm,bO,e4,h7,h8,(zL m w8),w9,rfl,x0⟩
            refine aC ?_;obtain ⟨b41,d2,p8,i0,x1⟩:=aD.lendSp p7 (zL (zL (zL (zL o j) k) l) m) zt1
            refine aIi ?_
            iterate 3 refine cV ?_
            refine rO (fun _ i0=>dG vC rfl d1 rfl rfl rfl c0) ?_;obtain ⟨b42,b43,x2⟩:=aW.el (sz:=1) rfl p8 c0
            obtain ⟨b44,b45,rfl,x3⟩:=x2
            refine aC ?_;obtain ⟨b5,p9,hm⟩:=aB hm
            refine aC ?_;obtain ⟨b46,b47,x4⟩:=aW.el (sz:=4) rfl x3 p9
            obtain ⟨b48,b49,rfl,b50⟩:=x4
            refine aC ?_;obtain ⟨x5,i1,hm⟩:=aB hm
            refine rO (fun _ i0=>dG vC rfl d1 rfl rfl rfl i1) ?_;obtain ⟨b51,b52,x6⟩:=aW.el (sz:=1) rfl p8 i1
            obtain ⟨b53,b54,rfl,x7⟩:=x6
            refine aC ?_;obtain ⟨b6,q0,hm⟩:=aB hm
            refine aC ?_;obtain ⟨b55,b56,x8⟩:=aW.el (sz:=4) rfl x7 q0
            obtain ⟨b57,b58,rfl,b59⟩:=x8
            refine aC ?_;obtain ⟨x9,y0,hm⟩:=aB hm
            refine qW (vs:=[fL a1 k2,str b5.B,str b6.B]) (v:=str x9) call110 rfl (fun _ i0=>(aIV y0 i0 (h3.mono (zL (zL (zL (zL (zL (zL g o) j) k) l) m) d2)) (h6.mono (zL (zL (zL (zL (zL (zL g o) j) k) l) m) d2)) (h9.mono (zL (zL (zL (zL (zL (zL g o) j) k) l) m) d2)) (j9.mono (zL (zL (zL (zL (zL (zL g o) j) k) l) m) d2)) (f4.mono (zL (zL (zL (zL (zL (zL g o) j) k) l) m) d2)) (k0.mono (zL (zL (zL (zL (zL (zL g o) j) k) l) m) d2)))) (aC ?_)
            refine sJ (fun b60 y1=>?_)
            have y2:=x1 _ _ y1
            refine aC ?_
            rcases aG hm with ⟨y3,hm⟩|⟨y3,hm⟩
            ·refine aC ?_;exact ⟨bO,q,p,u,x,(zR _),hm,p6,nC⟩
            ·refine aC ?_;obtain ⟨b61,y4,hm⟩:=aB hm
             refine dQ call65 (sF y4 y2 (k1.mono (zL (zL (zL (zL (zL g o) j) k) l) m))) ?_
             rintro _ b62 ⟨i2,c1,c2,rfl,y,i3⟩
             iterate 9 refine cV ?_
             refine aL (dG vC rfl d1 rfl rfl rfl c0) ?_;obtain ⟨b63,y5,y6⟩:=oS (sz:=1) rfl i3 (i:=1) rfl c0
             obtain ⟨y7,y8,rfl,y9⟩:=y6
             refine aL (aAJ (t:=0) (v:=zS y7 l4.length y8) aKI y5 rfl rfl) (aC ?_);obtain ⟨b64,z0,z1⟩:=aW.el (sz:=4) rfl y9 p9
             obtain ⟨l9,m0,rfl,z2⟩:=z1
             refine aC ?_;refine aL (pL (t:=1) (vs:=[i64 b5.Next.Definition,i64 b5.Next.Part,zS l9 b5.Next.Values.length m0]) xN i3 (z0.mono (zL (zL (zL (zL (zL o j) k) l) m) y)) rfl rfl rfl) ?_
             obtain ⟨b65,m1,hm⟩:=aB hm
             have q1:=cG i3 (i:=0) rfl m1
             refine aL (dG jQ rfl q1 rfl rfl rfl m1) ?_;obtain ⟨q2,m2,hm⟩:=aB hm
             refine aPh (i:=0) (ns:=[i64 b5.Next.Definition,i64 b5.Next.Part,zS l9 b5.Next.Values.length m0]) (e':=(b5.Next:GPoint)) sizeOf123 i3 rfl (zR _) rfl rfl rfl m1 m2 rfl ⟨l9,m0,rfl,(z2.mono (zL (zL (zL (zL (zL o j) k) l) m) y))⟩ (fun z3 (m3:aD G i2 (aJ 123 i2 c1 c2 q2::aJ 151 a c d b::aJ 105 q u x p::L) z3)=>?_)
             iterate 4 refine cV ?_
             refine kH (v:=zS c1 q2.length c2) (Eq.trans rfl (congrArg (fun n=>zS c1 n c2) (fB m2))) ?_
             iterate 3 refine cV ?_
             refine aL (dG vC rfl d1 rfl rfl rfl i1) ?_;obtain ⟨b66,z4,z5⟩:=oS (sz:=1) rfl m3 (i:=1) rfl i1
             obtain ⟨z6,z7,rfl,z8⟩:=z5
             refine aL (aAJ (t:=0) (v:=zS z6 x5.length z7) aKI z4 rfl rfl) (aC ?_);obtain ⟨b67,z9,a00⟩:=aW.el (sz:=4) rfl z8 q0
             obtain ⟨m4,m5,rfl,a01⟩:=a00
             refine aC ?_;refine aL (pL (t:=1) (vs:=[i64 b6.Next.Definition,i64 b6.Next.Part,zS m4 b6.Next.Values.length m5]) xN m3 (z9.mono (zL (zL (zL (zL (zL o j) k) l) m) y)) rfl rfl rfl) ?_
             obtain ⟨b68,q3,hm⟩:=aB hm
             refine aL (dG jQ rfl q1 rfl rfl rfl q3) ?_;obtain ⟨q4,q5,hm⟩:=aB hm
             refine aPh (i:=0) (ns:=[i64 b6.Next.Definition,i64 b6.Next.Part,zS m4 b6.Next.Values.length m5]) (e':=(b6.Next:GPoint)) sizeOf123 m3 rfl (zR _) rfl rfl rfl q3 q5 rfl ⟨m4,m5,rfl,(a01.mono (zL (zL (zL (zL (zL o j) k) l) m) y))⟩ (fun a02 (a03:aD G i2 (aJ 123 i2 c1 c2 q4::aJ 151 a c d b::aJ 105 q u x p::L) a02)=>(aC ?_));obtain ⟨m6,a04,hm⟩:=aB hm
             refine dQ call109 (aEl a04 a03 (h3.mono (zL (zL (zL (zL (zL (zL g o) j) k) l) m) y)) (h6.mono (zL (zL (zL (zL (zL (zL g o) j) k) l) m) y)) (h9.mono (zL (zL (zL (zL (zL (zL g o) j) k) l) m) y)) (j9.mono (zL (zL (zL (zL (zL (zL g o) j) k) l) m) y)) (f4.mono (zL (zL (zL (zL (zL (zL g o) j) k) l) m) y)) (k0.mono (zL (zL (zL (zL (zL (zL g o) j) k) l) m) y))) ?_
             rintro _ a05 ⟨rfl,a06⟩
             iterate 2 refine cV ?_
             refine kH (v:=zS c1 q4.length c2) (Eq.trans (Eq.trans rfl (congrArg (fun n=>zS c1 n c2) (fB m2))) (congrArg (fun n=>zS c1 n c2) (fB q5))) ?_;obtain ⟨a07,q6,a08,m7⟩:=aD.giveSp a06 (zR _) .head
             replace m7:aD G a07 (aJ 151 a c d b::aJ 105 q u x p::L) a05:=m7
             obtain ⟨m8,a09,hm⟩:=aB hm
             refine dQ call65 (sF a09 m7 a08) ?_
             rintro _ m9 ⟨b69,q7,q8,rfl,q9,a11⟩
             refine aL (gW (vs:=[(0,str m6),(1,i64 a6),(2,i64 a8),(3,zS q7 m8.length q8)]) (cs:=[str m6,i64 a6,i64 a8,zS q7 m8.length q8]) aSe rfl (by kernel_rfl)) ?_;obtain ⟨c3,r0,a12,n0⟩:=aD.giveSp a11 (zR _) .head
             replace n0:aD G c3 (aJ 151 a c d b::aJ 105 q u x p::L) m9:=n0
             have b70:aD G c3 (aJ 151 a c d b::aJ 105 c3 u x p::L) m9:=aD.weak (i:=1) n0 rfl (fun _ h=>aJ.mono (zL (zL (zL y q6) q9) r0) h)
             have a14:aD G c3 (aJ 105 c3 u x p::aJ 151 a c d b::L) m9:=nC
             obtain ⟨a15,a17,hm⟩:=aB hm
             refine dQ call108 (aBg (Kf:=c3) (x_:=⟨m6,a6,a8,m8⟩) a17 a14 (zR _) a12) ?_
             rintro _ b71 ⟨a18,a20,rfl,a21⟩
             refine aC ?_;exact ⟨bO,c3,a15,a18,a20,(zL (zL (zL y q6) q9) r0),hm,rfl,a21⟩
           ·refine aC ?_
            have a23:=hr _ (zI hm).symm
            subst a23
            have hm:(vV d0 p)=some l2:=ho
            clear hr ho
            refine aC ?_;exact ⟨bO,q,p,u,x,m,hm,p6,p7⟩
          refine aC ?_;obtain ⟨a24,r1,hm⟩:=aB hm
          refine aL (dG vC rfl d1 rfl rfl rfl r1) ?_;obtain ⟨b72,a26,a27⟩:=oS (sz:=1) rfl l7 (i:=1) rfl r1
          obtain ⟨a28,a29,rfl,b73⟩:=a27
          refine aL (aAJ (t:=0) (v:=zS a28 a24.length a29) aKI a26 rfl rfl) (aC ?_)
          rcases aG hm with ⟨a30,hm⟩|⟨a30,hm⟩
          ·refine aC ?_;exact ⟨bO,decide ((p.length:Int)<=200),hm,rfl,l7⟩
          ·refine aC ?_;exact ⟨bO,false,hm,rfl,l7⟩
        ·refine aC ?_
         have a32:=hr _ (zI hm).symm
         subst a32
         have hm:(vU a8 e2)=some k9:=ho
         clear hr ho
         refine aC ?_;exact ⟨bO,b4,e2,g8,g9,l,hm,v7,l3⟩
      ·refine aC ?_
       have a33:=hr _ (zI hm).symm
       subst a33
       have hm:(vT a6 e0)=some k6:=ho
       clear hr ho
       refine aC ?_;exact ⟨bO,b3,e0,g3,g4,k,hm,v0,v1⟩
    ·refine aC ?_
     have a34:=hr _ (zI hm).symm
     subst a34
     have hm:(vS d8)=some R:=ho
     clear hr ho
     refine aC ?_;exact ⟨bO,b2,d8,f8,f9,j,hm,u4,nC⟩
  have a35:aD G a (aJ 151 a c d b::aJ 105 a a5 0 ([]:List aN)::L) t8:=aD.weak (i:=1) t9 rfl (fun _ h=>aJ.mono g h)
  obtain ⟨b74,a36,ho⟩:=aB hm
  refine bJ [0,1,7] a36 (fun e5 a9 f w=>∃ b0 e6 e7,Hp.le a b0/\f 6=zS e6 e5.length e7/\f 11=i64 a9/\aD G b0 (aJ 151 a c d b::aJ 105 b0 e6 e7 e5::L) w) ?_ ?_
  ·exact ⟨a,a5,0,(zR _),rfl,rfl,a35⟩
  ·rintro e5 a9 n1 f b75 hm hr ⟨b0,e6,e7,J,r2,b76,a37⟩
   unfold qA at hm
   refine aC ?_
   rcases aG hm with ⟨a38,hm⟩|⟨a38,hm⟩
   ·refine aC ?_;refine aI [0,1,7,11] (fun f w=>∃ e8 i4 i5 i6,Hp.le b0 e8/\aAf a9 i4=some n1/\f 6=zS i5 i4.length i6/\aD G e8 (aJ 105 e8 i5 i6 i4::aJ 151 a c d b::L) w) ?_ ?_
    ·rintro f b77 ⟨e8,i4,i5,i6,a40,hm,a41,b78⟩
     unfold aAf at hm
     refine aC ?_;exact ⟨_,(zI hm).symm,bO,e8,i5,i6,(zL J a40),a41,rfl,nC⟩
    refine aC ?_;refine aI [0,1,7,11] (fun f w=>∃ e9 f0 i7 i8,Hp.le b0 e9/\pX a9 f0=some n1/\f 6=zS i7 f0.length i8/\aD G e9 (aJ 105 e9 i7 i8 f0::aJ 151 a c d b::L) w) ?_ ?_
    ·rintro f b79 ⟨e9,f0,i7,i8,a42,hm,a43,a44⟩
     unfold pX at hm
     refine aC ?_;exact ⟨bO,e9,f0,i7,i8,a42,hm,a43,a44⟩
    obtain ⟨b80,a45,ho⟩:=aB hm
    refine bJ [0,1,7,11] a45 (fun r i9 f w=>∃ z V a0,Hp.le b0 z/\f 6=zS V r.length a0/\f 12=i64 i9/\aD G z (aJ 151 a c d b::aJ 105 z V a0 r::L) w) ?_ ?_
    ·exact ⟨b0,e6,e7,(zR _),r2,rfl,a37⟩
    ·rintro r i9 r3 f b81 hm hr ⟨z,V,a0,a2,r4,b82,n2⟩
     unfold pZ at hm
     refine aC ?_;obtain ⟨r5,f1,hm⟩:=aB hm
     have r6:=cG n2 (i:=0) rfl f1
     refine aL (dG vC rfl r6 rfl rfl rfl f1) ?_;obtain ⟨b83,a46,a48⟩:=oS (sz:=1) rfl n2 (i:=0) rfl f1
     obtain ⟨a49,a50,rfl,b84⟩:=a48
     refine aL (aAJ (t:=0) (v:=zS a49 r5.length a50) aKI a46 rfl rfl) (aC ?_)
     rcases aG hm with ⟨a51,hm⟩|⟨a51,hm⟩
     ·refine aC ?_;refine aI [0,1,7,11,12] (fun f w=>∃ f2 j0 j1 j2,Hp.le z f2/\pY i9 j0=some r3/\f 6=zS j1 j0.length j2/\aD G f2 (aJ 151 a c d b::aJ 105 f2 j1 j2 j0::L) w) ?_ ?_
      ·rintro f b85 ⟨f2,j0,j1,j2,a52,hm,a53,a54⟩
       unfold pY at hm
       refine aC ?_;exact ⟨_,(zI hm).symm,bO,f2,j1,j2,(zL a2 a52),a53,rfl,a54⟩
      iterate 4 refine cV ?_
      refine aL (dG vC rfl r6 rfl rfl rfl f1) ?_;obtain ⟨b86,a55,a56⟩:=oS (sz:=1) rfl n2 (i:=0) rfl f1
      obtain ⟨a57,a58,rfl,a59⟩:=a56
      refine aL (aAJ (t:=0) (v:=zS a57 r5.length a58) aKI a55 rfl rfl) (aC ?_);obtain ⟨e,a60,hm⟩:=aB hm
      refine aC ?_;obtain ⟨b87,b88,a61⟩:=aW.el (sz:=4) rfl a59 a60
      obtain ⟨b7,b8,rfl,a62⟩:=a61
      refine aC ?_;refine pO fun d3 b89 b90=>?_
      refine nB fun b91 j3=>?_;refine aC ?_
      refine bC [0,1,6,7,11,12,13] (fun f w=>∃ n3,jH s_ a3 a9 r i9 e n3=some r3/\f 81=zB n3/\aD G z (box d3 155 [str e.B,i64 e.Next.Definition,i64 e.Next.Part,zS b7 e.Next.Values.length b8]::aJ 151 a c d b::aJ 105 z V a0 r::L) w) ?_ ?_
      ·rintro f b92 ⟨n3,hm,b93,a63⟩
       unfold jH at hm
       refine aC ?_
       rcases aG hm with ⟨a64,hm⟩|⟨a64,hm⟩
       ·refine aC ?_;exact ⟨bO,z,r,V,a0,(zR _),hm,r4,nC⟩
       ·refine aC ?_;obtain ⟨b94,a65,hm⟩:=aB hm
        refine dQ call65 (sF a65 a63 (k1.mono (zL (zL g J) a2))) ?_
        rintro _ b95 ⟨r7,n4,n5,rfl,b1,r8⟩
        refine aC ?_;obtain ⟨b96,n6,hm⟩:=aB hm
        have a66:=cG r8 (i:=0) rfl n6
        refine aL (dG jQ rfl a66 rfl rfl rfl n6) ?_;obtain ⟨r9,s0,hm⟩:=aB hm
        refine aPh (i:=0) (ns:=[i64 e.Next.Definition,i64 e.Next.Part,zS b7 e.Next.Values.length b8]) (e':=(e.Next:GPoint)) sizeOf123 r8 rfl (zR _) rfl rfl rfl n6 s0 rfl ⟨b7,b8,rfl,(a62.mono (zL (zL J a2) b1))⟩ (fun a67 (a68:aD G r7 (aJ 123 r7 n4 n5 r9::box d3 155 [str e.B,i64 e.Next.Definition,i64 e.Next.Part,zS b7 e.Next.Values.length b8]::aJ 151 a c d b::aJ 105 z V a0 r::L) a67)=>(aC ?_));obtain ⟨n7,a69,hm⟩:=aB hm
        refine dQ call109 (aEl a69 a68 (h3.mono (zL (zL (zL g J) a2) b1)) (h6.mono (zL (zL (zL g J) a2) b1)) (h9.mono (zL (zL (zL g J) a2) b1)) (j9.mono (zL (zL (zL g J) a2) b1)) (f4.mono (zL (zL (zL g J) a2) b1)) (k0.mono (zL (zL (zL g J) a2) b1))) ?_
        rintro _ a71 ⟨rfl,a72⟩
        iterate 1 refine cV ?_
        refine kH (v:=zS n4 r9.length n5) (Eq.trans rfl (congrArg (fun n=>zS n4 n n5) (fB s0))) ?_;obtain ⟨a73,s1,a74,n8⟩:=aD.giveSp a72 (zR _) .head
        replace n8:aD G a73 (box d3 155 [str e.B,i64 e.Next.Definition,i64 e.Next.Part,zS b7 e.Next.Values.length b8]::aJ 151 a c d b::aJ 105 z V a0 r::L) a71:=n8
        obtain ⟨n9,a75,hm⟩:=aB hm
        refine dQ call65 (sF a75 n8 a74) ?_
        rintro _ o0 ⟨b97,s2,s3,rfl,s4,a76⟩
        refine aL (gW (vs:=[(0,str n7),(1,i64 a9),(2,i64 (-1)),(3,zS s2 n9.length s3)]) (cs:=[str n7,i64 a9,i64 (-1),zS s2 n9.length s3]) aSe rfl (by kernel_rfl)) ?_;obtain ⟨c4,s5,a77,o1⟩:=aD.giveSp a76 (zR _) .head
        replace o1:aD G c4 (box d3 155 [str e.B,i64 e.Next.Definition,i64 e.Next.Part,zS b7 e.Next.Values.length b8]::aJ 151 a c d b::aJ 105 z V a0 r::L) o0:=o1
        have b98:aD G c4 (box d3 155 [str e.B,i64 e.Next.Definition,i64 e.Next.Part,zS b7 e.Next.Values.length b8]::aJ 151 a c d b::aJ 105 c4 V a0 r::L) o0:=aD.weak (i:=2) o1 rfl (fun _ h=>aJ.mono (zL (zL (zL b1 s1) s4) s5) h)
        have a78:aD G c4 (aJ 105 c4 V a0 r::box d3 155 [str e.B,i64 e.Next.Definition,i64 e.Next.Part,zS b7 e.Next.Values.length b8]::aJ 151 a c d b::L) o0:=nC
        obtain ⟨a79,a80,hm⟩:=aB hm
        refine dQ call108 (aBg (Kf:=c4) (x_:=⟨n7,a9,(-1),n9⟩) a80 a78 (zR _) a77) ?_
        rintro _ b99 ⟨a81,a82,rfl,c00⟩
        refine aC ?_;exact ⟨bO,c4,a79,a81,a82,(zL (zL (zL b1 s1) s4) s5),hm,rfl,nC⟩
      refine aIi ?_;refine aC ?_
      rcases aG hm with ⟨a83,hm⟩|⟨a83,hm⟩
      ·refine aC ?_;obtain ⟨s6,a84,hm⟩:=aB hm
       refine qW (vs:=[str e.B]) (v:=str s6) call107 rfl (fun _ j3=>(pI a84 j3)) (aC ?_);obtain ⟨s7,a85,hm⟩:=aB hm
       refine qW (vs:=[zS a13 s_.Allowed.length c14,str s6]) (v:=i64 s7) call70 rfl (fun _ j3=>(aAC a85 j3 (f4.mono (zL (zL g J) a2)))) (aC ?_);refine sJ (fun c01 a86=>(aC ?_))
       exact ⟨bO,decide (s7 < 0),hm,rfl,a86⟩
      ·refine aC ?_;refine sJ (fun c02 a87=>(aC ?_))
       exact ⟨bO,false,hm,rfl,a87⟩
     ·refine aC ?_
      have a88:=hr _ (zI hm).symm
      subst a88
      have hm:(pX a9 r)=some n1:=ho
      clear hr ho
      refine aC ?_;exact ⟨bO,z,r,V,a0,a2,hm,r4,nC⟩
   ·refine aC ?_
    have a89:=hr _ (zI hm).symm
    subst a89
    have hm:(mR s_ a3 b e5)=some R:=ho
    clear hr ho
    refine aC ?_;exact ⟨bO,b0,e5,e6,e7,J,hm,r2,nC⟩
 obtain ⟨c03,a90,ho⟩:=aB hm
 refine bJ [0,1,6] a90 (fun c6 s8 f w=>∃ c7 d4 d5,Hp.le K c7/\f 7=zS d4 c6.length d5/\f 8=i64 s8/\aD G c7 (aJ 151 c7 d4 d5 c6::aJ 105 K a5 0 ([]:List aN)::L) w) ?_ ?_
 ·exact ⟨K,o8,0,(zR _),rfl,rfl,t7⟩
 ·rintro c6 s8 c04 f c05 hm hr ⟨c7,d4,d5,d6,a91,c06,a93⟩
  unfold kZ at hm
  refine aC ?_
  rcases aG hm with ⟨a94,hm⟩|⟨a94,hm⟩
  ·refine aC ?_;refine bI (aC ?_)
   refine aKG [(0,0),(1,0),(2,0),(3,0),(4,0),(5,0),(6,0),(7,1),(8,0),(9,0),(10,0),(11,0),(12,0)] fun c07 a95=>?_;refine aC ?_
   obtain ⟨c08,a96,hm⟩:=aB hm
   refine aC ?_;obtain ⟨c09,a97,a98⟩:=aW.el (sz:=3) rfl k1 a96
   obtain ⟨c10,c12,rfl,a99⟩:=a98
   refine lM rfl ?_;obtain ⟨j4,b00,hm⟩:=aB hm
   refine dQ call106 (aFe b00 a95 (h6.mono d6) (a97.mono d6) (a99.mono d6)) ?_
   rintro _ b01 ⟨s9,o2,o3,rfl,j5,o4⟩
   refine bQ (aM ⟨⟨_,(aD.weakK o4 j5)⟩,?_⟩)
   refine aC ?_;refine yX (aC ?_)
   rcases aG hm with ⟨b02,hm⟩|⟨b02,hm⟩
   ·refine aC ?_;refine aDC (dX (kS (dX (dX ?_))))
    have b03:=hr _ (zI hm).symm
    subst b03
    have hm:(some ([],false))=some R:=ho
    clear hr ho
    have c13:=aD.nil (α:=aN) o4 105 s9
    obtain rfl:=zI hm
    exact kS (dX (dX (aOQ results68 rfl rfl ⟨s9,none,0,rfl,(zL d6 j5),nC⟩)))
   ·refine aC ?_;obtain ⟨b9,t0,b05,o5⟩:=aD.giveSp o4 (zR _) .head
    replace o5:aD G b9 (aJ 151 c7 d4 d5 c6::aJ 105 K a5 0 ([]:List aN)::L) b01:=o5
    refine fQ (Kt:=b9) (xs:=([j4.1]:List (List bF))) (cs:=[zS o2 j4.1.length o3]) (vs:=[(0,zS o2 j4.1.length o3)]) vC aNf rfl rfl o5 rfl (by kernel_rfl) rfl rfl rfl ⟨⟨o2,o3,rfl,b05⟩,trivial⟩ (fun b06 b07 (b08:aD G b9 (aJ 151 b9 b06 1 ([j4.1]:List (List bF))::aJ 151 c7 d4 d5 c6::aJ 105 K a5 0 ([]:List aN)::L) b07)=>?_);obtain ⟨b09,b10,hm⟩:=aB hm
    refine sO (i:=0) b9 vC underlying150 aNf rfl rfl b08 rfl (zL j5 t0) (zR _) b10 rfl rfl rfl rfl (fun _ _ _ h=>El.one h) (fun t1 t2 b11 (b12:aD G b9 (aJ 151 b9 t1 t2 b09::aJ 105 K a5 0 ([]:List aN)::L) b11)=>(aC ?_));exact ⟨_,(zI hm).symm,bO,b9,t1,t2,(zL (zL d6 j5) t0),rfl,rfl,b12⟩
  ·refine aC ?_
   have b13:=hr _ (zI hm).symm
   subst b13
   have hm:(kY s_ a3 c6)=some R:=ho
   clear hr ho
   refine aC ?_;exact ⟨bO,c7,c6,d4,d5,d6,hm,a91,a93⟩
theorem aHK {s_:aR} {k2:Nat} {q:(List GPoint)} {R:((List aH) × (List (List GPoint)) × Bool)} (hm:rE s_ q=some R) (hs:aD G K (L) w) (h3:eM K a1 k2 [zS a4 s_.Definitions.length c5,zS a7 s_.Components.length c8,zS a10 s_.Meetings.length c11,zS a13 s_.Allowed.length c14,zS a16 s_.Hidden.length c17]) (h6:aW K a4 c5 s_.Definitions) (h9:aW K a7 c8 s_.Components) (c2:aW K a10 c11 s_.Meetings) (c3:aW K a13 c14 s_.Allowed) (c4:aW K a16 c17 s_.Hidden) (c6:aW K a19 c20 q):
  Calls prog 32 ([fL a1 k2,zS a19 q.length c20]:List Value).toArray w (cN fun v w'=>∃ r a3 a5 a6 a8,v=Value.tuple #[zS a3 R.1.length a5,zS a6 R.2.1.length a8,zB R.2.2]/\Hp.le K r/\aD G r (aJ 9 K a3 a5 R.1::aJ 52 r a6 a8 R.2.1::L) w'):=by
 refine cC func32 ?_;unfold rE at hm
 refine aC ?_;obtain ⟨c,c7,hm⟩:=aB hm
 refine dQ call68 (aHJ c7 hs h3 h6 h9 c2 c3 c4 c6) ?_
 rintro _ e7 ⟨a,e,g,rfl,e8,e9⟩
 refine aC ?_;refine vJ ([]:List aH) fun c9 f0 d0=>?_
 refine aC ?_;refine fQ (Kt:=a) (xs:=([]:List (List GPoint))) (cs:=[]) (vs:=[]) jD aDI rfl rfl d0 rfl (by kernel_rfl) rfl rfl rfl trivial (fun d1 d2 (f1:aD G a (aJ 52 a d1 0 ([]:List (List GPoint))::aJ 9 K c9 0 ([]:List aH)::aJ 105 a e g c.1::L) d2)=>(aC ?_))
 refine aI [8] (fun f w=>∃ u x a9 b0 b1 b2,aKg c u x=some R/\f 9=zS a9 u.length b0/\f 10=zS b1 x.length b2/\aD G a (aJ 52 a b1 b2 x::aJ 9 K a9 b0 u::L) w) aF ?_;obtain ⟨f2,d3,ho⟩:=aB hm
 refine nO [7,8] d3 (fun y j k f w=>∃ z J l m,f 9=zS z y.length J/\f 10=zS l j.length m/\f 11=i64 k/\aD G a (aJ 52 a l m j::aJ 9 K z J y::aJ 105 a e g c.1::L) w) aF ?_
 ·rintro y j k f3 f f4 hm hr ⟨z,J,l,m,f5,f6,f7,b3⟩
  unfold rZ at hm
  refine aC ?_
  rcases aG hm with ⟨d4,hm⟩|⟨d4,hm⟩
  ·refine aC ?_;refine bI (aC ?_)
   obtain ⟨b,d,hm⟩:=aB hm
   have n:=cG b3 (i:=2) rfl d
   refine aL (dG aFv rfl n rfl rfl rfl d) (aL (aRR (k':=k.toNat * 4+0) aTr n rfl rfl) ?_);obtain ⟨f8,d5,d6⟩:=oS (sz:=4) rfl b3 (i:=2) rfl d
   obtain ⟨f9,g0,rfl,g1⟩:=d6
   refine aL (aAJ (t:=0) (v:=str b.B) sc_9 d5 rfl rfl) (vJ ([b.B]:List aH) fun g2 g3 g4=>?_);obtain ⟨b4,g5,hm⟩:=aB hm
   refine st_p fun V a0 g6 b5=>?_
   iterate 7 refine cV ?_
   refine aL (dG aFv rfl n rfl rfl rfl d) (aL (aRR (k':=k.toNat * 4+3) aTs n rfl rfl) ?_);obtain ⟨g7,d7,d8⟩:=oS (sz:=4) rfl b5 (i:=2) rfl d
   obtain ⟨o,p,rfl,d9⟩:=d8
   refine aL (aAJ (t:=3) (v:=zS o b.State.length p) aFO d7 rfl rfl) (fQ (Kt:=a) (xs:=([b.State]:List (List GPoint))) (cs:=[zS o b.State.length p]) (vs:=[(0,zS o b.State.length p)]) jD aDI rfl rfl b5 rfl (by kernel_rfl) rfl rfl rfl ⟨⟨o,p,rfl,d9⟩,trivial⟩ (fun e0 e1 (e2:aD G a (aJ 52 a e0 1 ([b.State]:List (List GPoint))::aJ 52 a l m j::aJ 9 K V a0 b4::aJ 105 a e g c.1::L) e1)=>?_));obtain ⟨e3,e4,hm⟩:=aB hm
   refine sO (i:=0) a jD underlying48 aDI rfl rfl e2 rfl (zR _) (zR _) e4 rfl rfl rfl rfl (fun _ _ _ h=>El.one h) (fun b6 b7 e5 (e6:aD G a (aJ 52 a b6 b7 e3::aJ 9 K V a0 b4::aJ 105 a e g c.1::L) e5)=>(aC ?_));exact ⟨_,(zI hm).symm,bO,V,a0,b6,b7,rfl,rfl,rfl,e6⟩
  ·exact aF
theorem aIW {a:(List aH)} {b:aH} {R:((List aH) × Int)} (hm:aJD a b=some R) (e:aD G K (aJ 9 K a1 c2 a::L) w):
  Calls prog 34 ([zS a1 a.length c2,str b]:List Value).toArray w (cN fun v w'=>∃ c d,v=Value.tuple #[zS c R.1.length d,i64 R.2]/\aD G K (aJ 9 K c d R.1::L) w'):=by
 exact aF
theorem aIX {q R:(List aH)} (hm:aDv q=some R) (hs:aD G K (L) w) (h3:aW K a1 c2 q):
  Calls prog 71 ([zS a1 q.length c2]:List Value).toArray w (cN fun v w'=>∃ J V,v=zS J R.length V/\aD G K (aJ 9 K J V R::L) w'):=by
 refine cC func71 ?_;unfold aDv at hm
 refine aC ?_;refine vJ ([([116,97,117]:aH)]:List aH) fun a4 w5 e7=>?_
 refine aC ?_;refine aI [] (fun f w=>∃ r a8 c9,aLV r=some R/\f 3=zS a8 r.length c9/\aD G K (aJ 9 K a8 c9 r::L) w) aF ?_
 obtain ⟨e8,b7,ho⟩:=aB hm
 refine bJ [0] b7 (fun c g f w=>∃ d e,f 3=zS d c.length e/\f 4=i64 g/\aD G K (aJ 9 K d e c::L) w) aF ?_
 ·rintro c g u f e9 hm hr ⟨d,e,f0,f1,b8⟩
  unfold rF at hm
  refine aC ?_
  rcases aG hm with ⟨b9,hm⟩|⟨b9,hm⟩
  ·refine aC ?_;refine aI [0,4] (fun f w=>∃ j k l,uN g j=some u/\f 3=zS k j.length l/\aD G K (aJ 9 K k l j::L) w) ?_ ?_
   ·rintro f f2 ⟨j,k,l,hm,c0,c1⟩
    unfold uN at hm
    refine aC ?_;exact ⟨_,(zI hm).symm,bO,k,l,c0,rfl,c1⟩
   refine aC ?_;obtain ⟨m,c3,hm⟩:=aB hm
   refine aC ?_;obtain ⟨f3,f4,c4⟩:=aW.el (sz:=1) rfl h3 c3
   cases c4
   refine aC ?_;obtain ⟨f5,f6,c5,c6,c7⟩:=aD.lendSp b8 (zR _) .head
   obtain ⟨f7,c8,hm⟩:=aB hm
   refine dQ call70 (aAC c8 c6 c5) ?_
   rintro _ f8 ⟨rfl,d0⟩
   have f9:=c7 _ _ d0
   refine aC ?_
   rcases aG hm with ⟨d1,hm⟩|⟨d1,hm⟩
   ·exact aF
   ·refine aC ?_;refine aI [0,3,4] (fun f w=>∃ o,aCZ c g m o=some u/\f 5=i64 o/\aD G K (aJ 9 K d e c::L) w) ?_ ?_
    ·rintro f g0 ⟨o,hm,g1,g2⟩
     unfold aCZ at hm
     refine aC ?_;refine vJ ([([]:aH)]:List aH) fun g3 g4 g5=>?_
     obtain ⟨g6,g7,hm⟩:=aB hm
     refine st_p fun a b g8 g9=>?_;refine aC ?_
     refine aI [0,4,5] (fun f w=>∃ p,aCY g m o p=some u/\f 3=zS a p.length b/\aD G K (aJ 9 K a b p::L) w) ?_ ?_
     ·rintro f h0 ⟨p,hm,d2,a3⟩
      unfold aCY at hm
      refine aC ?_;obtain ⟨h1,x,hm⟩:=aB hm
      have d3:=cG a3 (i:=0) rfl x
      refine aL (dG sP rfl d3 rfl rfl rfl x) ?_;obtain ⟨a5,a6,hm⟩:=aB hm
      refine qU (i:=0) (t:=0) (ns:=[str m]) (e':=(m:aH)) sizeOf9 a3 rfl (zR _) rfl rfl rfl x a6 rfl rfl (xM rfl) rfl (fun cs h=>by cases h;rfl) (fun d4 (d5:aD G K (aJ 9 K a b a5::L) d4)=>(aC ?_));exact ⟨bO,a5,a,b,hm,(Eq.trans d2 (congrArg (fun n=>zS a n b) (fB a6))),d5⟩
     obtain ⟨h2,d6,ho⟩:=aB hm
     refine bJ [0,4,5] d6 (fun y a7 f w=>f 3=zS a y.length b/\f 6=i64 a7/\aD G K (aJ 9 K a b y::L) w) aF ?_
     ·rintro y a7 h4 f h5 hm hr ⟨d7,h6,a9⟩
      unfold aAg at hm
      refine aC ?_
      rcases aG hm with ⟨d8,hm⟩|⟨d8,hm⟩
      ·refine aC ?_;refine bI (aC ?_)
       obtain ⟨b0,b1,hm⟩:=aB hm
       have b2:=cG a9 (i:=0) rfl b1
       refine aL (dG sP rfl b2 rfl rfl rfl b1) (aC ?_);obtain ⟨h7,b3,hm⟩:=aB hm
       refine aL (dG sP rfl b2 rfl rfl rfl b3) ?_;obtain ⟨d9,b4,hm⟩:=aB hm
       refine qU (i:=0) (t:=0) (ns:=[str b0]) (e':=(b0:aH)) sizeOf9 a9 rfl (zR _) rfl rfl rfl b3 b4 rfl rfl (xM rfl) rfl (fun cs h=>by cases h;rfl) (fun e0 (e1:aD G K (aJ 9 K a b d9::L) e0)=>(aC ?_));exact ⟨_,(zI hm).symm,bO,(Eq.trans d7 (congrArg (fun n=>zS a n b) (fB b4))),rfl,e1⟩
      ·exact aF
    obtain ⟨h8,e2,ho⟩:=aB hm
    refine bL [0,3,4] e2 (fun z f w=>f 5=i64 z/\aD G K (aJ 9 K d e c::L) w) aF ?_
    ·rintro z e3 f h9 hm hr ⟨i0,i1⟩
     unfold uO at hm
     refine aC ?_;exact bC [0,3,4,5] (fun f w=>∃ b5,aAh z b5=some e3/\f 35=zB b5/\aD G K (aJ 9 K d e c::L) w) aF aF
  ·exact aF
theorem aIY {a:Edge} {c:Nat} {b:Edge} {d:Nat} {R:Bool} (hm:aJE a b=some R) (e:aD G K (L) w) (g:eM K a1 c [i64 a.F,i64 a.B,i64 a.To]) (h:eM K a4 d [i64 b.F,i64 b.B,i64 b.To]):
  Calls prog 112 ([fL a1 c,fL a4 d]:List Value).toArray w (cN fun v w'=>v=zB R/\aD G K (L) w'):=by
 exact aF
theorem aQE {c:(List Edge)} {e:Edge} {R:(List Edge)} (hm:aIy c e=some R) (hs:aD G K (aJ 83 K a1 c2 c::L) w):
  Calls prog 72 ([zS a1 c.length c2,Value.agg #[i64 e.F,i64 e.B,i64 e.To]]:List Value).toArray w (cN fun v w'=>∃ z J,v=zS z R.length J/\aD G K (aJ 83 K z J R::L) w'):=by
 let d:=[i64 e.F,i64 e.B,i64 e.To]
 refine cC func72 ?_;unfold aIy at hm
 refine aC ?_;refine sL fun g w4 e9=>?_
 refine aC ?_;refine aI [0,3] (fun f w=>∃ k,aEV c e k=some R/\f 5=i64 k/\aD G K (box g 83 d::aJ 83 K a1 c2 c::L) w) ?_ ?_
 ·rintro f w8 ⟨k,hm,e7,m⟩
  unfold aEV at hm
  refine aC ?_;refine bC [0,3,5] (fun f w=>∃ o,yD c e k o=some R/\f 30=zB o/\aD G K (box g 83 d::aJ 83 K a1 c2 c::L) w) ?_ ?_
  ·rintro f f2 ⟨o,hm,f3,f4⟩
   unfold yD at hm
   refine aC ?_
   rcases aG hm with ⟨b4,hm⟩|⟨b4,hm⟩
   ·exact aF
   ·iterate 6 refine cV ?_
    refine aL (gW (vs:=[]) (cs:=[i64 0,i64 0,i64 0]) bs_83 rfl (by kernel_rfl)) (vJ ([⟨0,0,0⟩]:List Edge) fun f5 f6 f7=>?_);obtain ⟨f8,f9,hm⟩:=aB hm
    refine st_p fun a b g0 g1=>?_;refine aC ?_
    refine aI [3,5] (fun f w=>∃ l,aEU e k l=some R/\f 0=zS a l.length b/\aD G K (box g 83 d::aJ 83 K a b l::L) w) ?_ ?_
    ·rintro f g2 ⟨l,hm,b5,V⟩
     unfold aEU at hm
     refine aC ?_;obtain ⟨g3,p,hm⟩:=aB hm
     have b6:=cG V (i:=1) rfl p
     refine aL (dG yY rfl b6 rfl rfl rfl p) ?_;obtain ⟨a0,a2,hm⟩:=aB hm
     refine qU (i:=1) (t:=0) (ns:=d) (e':=(⟨e.F,e.B,e.To⟩:Edge)) sizeOf83 V rfl (zR _) rfl rfl rfl p a2 rfl rfl (xM rfl) rfl (fun cs h=>by cases h;rfl) (fun b7 (g4:aD G K (box g 83 d::aJ 83 K a b a0::L) b7)=>?_)
     iterate 4 refine cV ?_
     refine kH (v:=zS a a0.length b) (Eq.trans b5 (congrArg (fun n=>zS a n b) (fB a2))) (aC ?_);obtain rfl:=zI hm
     exact st_E results72 ⟨a,b,rfl,nC⟩
    obtain ⟨g5,b9,ho⟩:=aB hm
    refine bJ [3,5] b9 (fun q a3 f w=>f 0=zS a q.length b/\f 6=i64 a3/\aD G K (box g 83 d::aJ 83 K a b q::L) w) aF ?_
    ·rintro q a3 g6 f g7 hm hr ⟨c0,g8,a4⟩
     unfold aBS at hm
     refine aC ?_
     rcases aG hm with ⟨c1,hm⟩|⟨c1,hm⟩
     ·refine aC ?_;refine bI (aC ?_)
      obtain ⟨j,a5,hm⟩:=aB hm
      have a6:=cG a4 (i:=1) rfl a5
      refine aL (dG yY rfl a6 rfl rfl rfl a5) (aC ?_);obtain ⟨g9,a7,hm⟩:=aB hm
      refine aL (dG yY rfl a6 rfl rfl rfl a7) ?_;obtain ⟨c3,a8,hm⟩:=aB hm
      refine qU (i:=1) (t:=0) (ns:=[i64 j.F,i64 j.B,i64 j.To]) (e':=(⟨j.F,j.B,j.To⟩:Edge)) sizeOf83 a4 rfl (zR _) rfl rfl rfl a7 a8 rfl rfl (xM rfl) rfl (fun cs h=>by cases h;rfl) (fun c4 (c5:aD G K (box g 83 d::aJ 83 K a b c3::L) c4)=>(aC ?_));exact ⟨_,(zI hm).symm,bO,(Eq.trans c0 (congrArg (fun n=>zS a n b) (fB a8))),rfl,c5⟩
     ·exact aF
  refine aIi ?_;refine aC ?_
  rcases aG hm with ⟨c6,hm⟩|⟨c6,hm⟩
  ·refine aC ?_;obtain ⟨a9,b0,hm⟩:=aB hm
   have c7:=cG m (i:=1) rfl b0
   refine rO (fun _ m=>dG yY rfl c7 rfl rfl rfl b0) (aC ?_);refine rO (fun _ m=>R_eqlG (eq_83 (x:=a9) (y:=e)) rfl rfl) (aC ?_)
   refine sJ (fun h0 c8=>(aC ?_));exact ⟨bO,decide ((a9:Edge)=e),hm,rfl,c8⟩
  ·exact aF
 obtain ⟨h1,c9,ho⟩:=aB hm
 refine bL [0,3] c9 (fun r f w=>f 5=i64 r/\aD G K (box g 83 d::aJ 83 K a1 c2 c::L) w) aF ?_
 ·rintro r d0 f h2 hm hr ⟨h3,b1⟩
  unfold yE at hm
  iterate 2 refine cV ?_
  refine bC [0,3,5] (fun f w=>∃ b2,aBT r b2=some d0/\f 17=zB b2/\aD G K (box g 83 d::aJ 83 K a1 c2 c::L) w) aF (aC ?_)
  rcases aG hm with ⟨d1,hm⟩|⟨d1,hm⟩
  ·refine aC ?_;obtain ⟨h4,u,hm⟩:=aB hm
   have d2:=cG b1 (i:=1) rfl u
   refine aL (dG yY rfl d2 rfl rfl rfl u) (aC ?_);obtain ⟨h5,d3,d4,d5,d6⟩:=aD.lendBp b1 .head
   obtain ⟨h6,d7,d8,d9,e0⟩:=aD.lendSp d5 d3 .head
   obtain ⟨h7,e1,e2⟩:=aW.el (sz:=3) rfl d8 u
   cases e2
   obtain ⟨h8,e3,hm⟩:=aB hm
   refine dQ call112 (aIY e3 d9 (d4.mono d7) e1) ?_
   rintro _ h9 ⟨rfl,e4⟩
   have e5:=e0 _ _ e4
   have i0:=d6 _ _ e5
   exact aF
  ·exact aF
theorem aIZ {a b:Int} {g:(List aH)} {h:(List Edge)} {R:iQ} (hm:aAX a b g h=some R) (hs:aD G K (L) w) (n:aW K a1 c2 g) (h6:aW K a4 c5 h):
  Calls prog 35 ([i64 a,i64 b,zS a1 g.length c2,zS a4 h.length c5]:List Value).toArray w (cN fun v w'=>∃ o p q r,v=Value.agg (zCa R o p q r)/\aD G K (aJ 9 K o p R.L::aJ 83 K q r R.E::L) w'):=by
 refine cC func35 ?_;unfold aAX at hm
 refine aC ?_;refine pO fun u w8 a5=>?_
 refine aC ?_;obtain ⟨c,a6,hm⟩:=aB hm
 refine dQ call71 (aIX a6 a5 n) ?_
 rintro _ d0 ⟨d,e,rfl,d1⟩
 refine vJ ([]:List Edge) fun x d2 d3=>?_;refine aL (gW (vs:=[(0,i64 a),(1,i64 b),(2,zS d c.length e),(3,zS x ([]:List Edge).length 0)]) (cs:=[i64 a,i64 b,zS d c.length e,zS x ([]:List Edge).length 0]) bs_47 rfl (by kernel_rfl)) (pO fun y d4 d5=>?_)
 refine nB fun d6 d7=>?_;refine aC ?_
 refine aI [8,9] (fun f w=>∃ i z J,aGP a b c i=some R/\aD G K (aJ 83 K z J i::box y 47 [i64 a,i64 b,zS d c.length e,zS z i.length J]::aJ 9 K d e c::box u 47 zG::L) w) aF ?_;obtain ⟨d8,a7,ho⟩:=aB hm
 refine bJ [2,3,8,9] a7 (fun j V f w=>∃ k l,f 10=i64 V/\aD G K (box y 47 [i64 a,i64 b,zS d c.length e,zS k j.length l]::aJ 83 K k l j::aJ 9 K d e c::box u 47 zG::L) w) aF ?_
 ·rintro j V d9 f e0 hm hr ⟨k,l,e1,e2⟩
  unfold rG at hm
  refine aC ?_
  rcases aG hm with ⟨a8,hm⟩|⟨a8,hm⟩
  ·refine aC ?_;refine bI (aC ?_)
   obtain ⟨e3,a9,hm⟩:=aB hm
   refine aC ?_;obtain ⟨e4,e5,b0⟩:=aW.el (sz:=3) rfl h6 a9
   cases b0
   refine aC ?_;refine pO fun e6 e7 e8=>?_
   refine nB fun e9 b1=>?_;refine aC ?_
   obtain ⟨f0,b2,b3,b4,b5⟩:=aD.lendBp b1 .head
   obtain ⟨f1,a0,f2,f3,b6⟩:=aD.lendBp b4 .head
   refine aKG [(0,0),(1,0),(2,0),(3,0),(4,0),(5,0),(6,0),(7,1),(8,0),(9,2)] fun f4 m=>?_;refine aC ?_
   refine fM rfl (fun _ ⟨_,m⟩=>lD (t:=1) aFu m (b3.mono a0) rfl rfl) ?_;obtain ⟨f5,b8,hm⟩:=aB hm
   refine aC ?_;obtain ⟨f6,f7,b9⟩:=aW.el (sz:=1) rfl n b8
   cases b9
   refine aC ?_;refine lM rfl ?_
   obtain ⟨f8,f9,c0,c1,c3⟩:=aD.lendSp m (zL b2 a0) zt1
   obtain ⟨g0,c4,hm⟩:=aB hm
   refine dQ call70 (aAC c4 c1 c0) ?_
   rintro _ g1 ⟨rfl,c6⟩
   have a2:=c3 _ _ c6
   refine bQ (aM ⟨⟨_,a2⟩,?_⟩)
   refine aC ?_
   have c7:=b6 _ _ a2
   have g2:=b5 _ _ c7
   exact aF
  ·exact aF
end Gv
namespace Gv
open Gv.Hp renaming le_refl→zR
open Go.Value renaming slice→zS,bool→zB,agg→zA
open Option.some renaming inj→zI
open Gv.Hp renaming le_trans→zL
open Go Go.Proofs Go.Proofs.Tryz
set_option maxRecDepth 20000
set_option maxHeartbeats 40000000
variable {G:mL} {K:Hp} {L:List eU} {w:World} {a1 a4 a7 a10 a13 a16:Option Addr} {c5 c8 c11 c14 c17 c2:Nat}
theorem aFf {s_:aR} {k2:Nat} {R:(iQ × (List (List GPoint)) × Bool)} (hm:rH s_=some R) (hs:aD G K (L) w) (h3:eM K a1 k2 [zS a4 s_.Definitions.length c5,zS a7 s_.Components.length c8,zS a10 s_.Meetings.length c11,zS a13 s_.Allowed.length c14,zS a16 s_.Hidden.length c17]) (h6:aW K a4 c5 s_.Definitions) (h9:aW K a7 c8 s_.Components) (o6:aW K a10 c11 s_.Meetings) (o7:aW K a13 c14 s_.Allowed) (o8:aW K a16 c17 s_.Hidden):
  Calls prog 14 ([fL a1 k2]:List Value).toArray w (cN fun v w'=>∃ K' o9 p0 p1 p2 p3 p4,v=Value.tuple #[zA (zCa R.1 o9 p0 p1 p2),zS p3 R.2.1.length p4,zB R.2.2]/\Hp.le K K'/\aD G K' (aJ 9 K o9 p0 R.1.L::aJ 83 K p1 p2 R.1.E::aJ 52 K' p3 p4 R.2.1::L) w'):=by
 let b:=zG
 refine iS func14 rfl (by kernel_rfl) (by show (1:Nat)<=133;decide) ?_;unfold rH at hm
 refine dR (pM (vs:=b) zeroValue47 hs rfl (fun d w20 s2=>(cW (v:=zS none 0 0) (cW (v:=zB false) (cX (dR (bD (v:=fL a1 k2) ?_)))))));obtain ⟨s3,s4,hm⟩:=aB hm
 refine cI (vs:=[fL a1 k2]) call31 rfl (aHH s4 s2 h3 h6 h9 o6 o7 o8) ?_
 rintro _ s5 ⟨K24,s6,s7,rfl,b2,s8⟩
 obtain ⟨s9,b3,t0,l2⟩:=aD.giveSp s8 (zR _) .head
 replace l2:aD G s9 (box d 47 b::L) s5:=l2
 obtain ⟨d2,t1,hm⟩:=aB hm
 refine cI (vs:=[zS s6 s3.length s7]) call30 rfl (aEi t1 l2 t0) ?_
 rintro _ t2 ⟨K36,l3,l4,rfl,b4,t3⟩
 obtain ⟨c2,b5,t4,l5⟩:=aD.giveSp t3 (zR _) .head
 replace l5:aD G c2 (box d 47 b::L) t2:=l5
 refine fQ (Kt:=c2) (xs:=([d2]:List (List GPoint))) (cs:=[zS l3 d2.length l4]) (vs:=[(0,zS l3 d2.length l4)]) jD aDI rfl rfl l5 rfl (by kernel_rfl) rfl rfl rfl ⟨⟨l3,l4,rfl,t4⟩,trivial⟩ (fun h1 t5 (t6:aD G c2 (aJ 52 c2 h1 1 ([d2]:List (List GPoint))::box d 47 b::L) t5)=>(cW (v:=zS h1 ([d2]:List (List GPoint)).length 1) (cX (dR (fQ (Kt:=K) (xs:=([([116,97,117]:aH)]:List aH)) (cs:=[str ([116,97,117]:aH)]) (vs:=[(0,str ([116,97,117]:aH))]) sP ez_9 rfl rfl t6 rfl (by kernel_rfl) rfl rfl rfl ⟨rfl,trivial⟩ (fun l6 t7 (t8:aD G c2 (aJ 9 K l6 1 ([([116,97,117]:aH)]:List aH)::aJ 52 c2 h1 1 ([d2]:List (List GPoint))::box d 47 b::L) t7)=>(cW (v:=zS l6 ([([116,97,117]:aH)]:List aH).length 1) (cX (dR (fQ (Kt:=K) (xs:=([]:List Edge)) (cs:=[]) (vs:=[]) yY ez_83 rfl rfl t8 rfl (by kernel_rfl) rfl rfl rfl trivial (fun p5 t9 (a55:aD G c2 (aJ 83 K p5 0 ([]:List Edge)::aJ 9 K l6 1 ([([116,97,117]:aH)]:List aH)::aJ 52 c2 h1 1 ([d2]:List (List GPoint))::box d 47 b::L) t9)=>(cW (v:=zS p5 ([]:List Edge).length 0) (cX (gG (dR (cW (v:=i64 0) (cX (aI [2] (fun f w=>∃ d3 c6 e0 e1 e2 e3 f8 f9 g0 g1,Hp.le c2 d3/\jT c6 e0 e1=some R/\f 5=zS e2 c6.length e3/\f 6=zS f8 e0.length f9/\f 7=zS g0 e1.length g1/\aD G d3 (aJ 83 K g0 g1 e1::aJ 9 K f8 f9 e0::aJ 52 d3 e2 e3 c6::box d 47 b::L) w) ?_ ?_))))))))))))))))))
 ·rintro f w69 ⟨d3,c6,e0,e1,e2,e3,f8,f9,g0,g1,l7,hm,p6,u0,u1,u2⟩
  unfold jT at hm
  refine aM (dR (kH p6 (aL (vB (len:=c6.length) jD rfl) (kH u0 (kH u1 ?_)))));obtain ⟨K71,u3,u4,u5,u6⟩:=aD.lendSp u2 (zL (zL (zL (zL b2 b3) b4) b5) l7) zt1
  obtain ⟨K76,u7,u8,u9,v0⟩:=aD.lendSp u5 (zL (zL (zL (zL (zL b2 b3) b4) b5) l7) u3) .head
  obtain ⟨q,v1,hm⟩:=aB hm
  refine cI (vs:=[i64 (c6.length:Int),i64 0,zS f8 e0.length f9,zS g0 e1.length g1]) call35 rfl (aIZ v1 u9 (u4.mono u7) u8) ?_
  rintro _ w87 ⟨e4,e5,e6,e7,rfl,v2⟩
  have v3:=v0 _ _ v2
  have v4:=u6 _ _ v3
  refine kH p6 (tB (i:=5) (ns:=(zC q e4 e5 e6 e7)) (us:=(zC q e4 e5 e6 e7)) sizeOf47 v4 rfl rfl rfl rfl rfl (xM rfl) rfl rfl (fun v5 (p7:aD G d3 (aJ 9 K f8 f9 e0::aJ 83 K g0 g1 e1::aJ 9 K e4 e5 q.L::aJ 83 K e6 e7 q.E::aJ 52 d3 e2 e3 c6::box d 47 (zC q e4 e5 e6 e7)::L) v5)=>(cW (v:=zS e2 c6.length e3) (cW (v:=zB true) (cX ?_)))));obtain rfl:=zI hm
  exact aDC (aLw results14 (aIf (vs:=(zC q e4 e5 e6 e7)) rfl aPn p7 (i:=5) rfl rfl rfl) (aGz rfl rfl) (aGz rfl rfl) ⟨d3,e4,e5,e6,e7,e2,e3,rfl,(zL (zL (zL (zL b2 b3) b4) b5) l7),(aD.arr 6 [2,3,4] p7 rfl)⟩)
 obtain ⟨a62,v7,ho⟩:=aB hm
 refine aIc [0,2] v7 (fun c7 d4 d5 m f w=>∃ d6 e8 e9 f0 f1 f2 f3,Hp.le c2 d6/\f 5=zS e8 c7.length e9/\f 6=zS f0 d4.length f1/\f 7=zS f2 d5.length f3/\f 8=i64 m/\aD G d6 (aJ 83 K f2 f3 d5::aJ 9 K f0 f1 d4::aJ 52 d6 e8 e9 c7::box d 47 b::L) w) aF ?_
 ·rintro c7 d4 d5 m h2 f a63 hm hr ⟨d6,e8,e9,f0,f1,f2,f3,c3,l8,v8,v9,h4,h5⟩
  unfold gF at hm
  refine gG (dR (kH h4 (kH l8 (aL (vB (len:=c7.length) jD rfl) (aL (aFJ rfl rfl) (cX ?_))))))
  rcases aG hm with ⟨l9,hm⟩|⟨l9,hm⟩
  ·refine dS l9 rfl (kB (aM (gG (aI [0,2,8] (fun f w=>∃ g2 h7 h8 i0 i1 i2 i3 i4 i5 i6,Hp.le d6 g2/\xA m h7 h8 i0=some h2/\f 5=zS i1 h7.length i2/\f 6=zS i3 h8.length i4/\f 7=zS i5 i0.length i6/\aD G g2 (aJ 83 K i5 i6 i0::aJ 9 K i3 i4 h8::aJ 52 g2 i1 i2 h7::box d 47 b::L) w) ?_ ?_))))
   ·rintro f a65 ⟨g2,h7,h8,i0,i1,i2,i3,i4,i5,i6,w0,hm,w1,w2,w3,w4⟩
    unfold xA at hm
    exact aM (eN (kH h4 (aL (nM rfl rfl) (cW (v:=i64 (wr (m+1))) (cX ⟨_,(zI hm).symm,bO,g2,i1,i2,i3,i4,i5,i6,(zL c3 w0),w1,w2,w3,rfl,w4⟩)))))
   refine dR (bD (v:=fL a1 k2) (kH l8 (kH h4 ?_)));obtain ⟨p8,m0,hm⟩:=aB hm
   have w5:=cG h5 (i:=2) rfl m0
   refine aL (dG jD rfl w5 rfl rfl rfl m0) ?_;obtain ⟨a66,w6,w7⟩:=oS (sz:=1) rfl h5 (i:=2) rfl m0
   obtain ⟨p9,q0,rfl,w8⟩:=w7
   refine aL (aAJ (t:=0) (v:=zS p9 p8.length q0) aFO w6 rfl rfl) ?_;obtain ⟨a,w9,hm⟩:=aB hm
   refine cI (vs:=[fL a1 k2,zS p9 p8.length q0]) call32 rfl (aHK w9 h5 (h3.mono (zL (zL (zL (zL b2 b3) b4) b5) c3)) (h6.mono (zL (zL (zL (zL b2 b3) b4) b5) c3)) (h9.mono (zL (zL (zL (zL b2 b3) b4) b5) c3)) (o6.mono (zL (zL (zL (zL b2 b3) b4) b5) c3)) (o7.mono (zL (zL (zL (zL b2 b3) b4) b5) c3)) (o8.mono (zL (zL (zL (zL b2 b3) b4) b5) c3)) w8) ?_
   rintro _ x0 ⟨e,j,k,n,o,rfl,i7,q1⟩
   refine bD (v:=Value.tuple #[zS j a.1.length k,zS n a.2.1.length o,zB a.2.2]) (aL (iM rfl rfl) (aL (iM rfl rfl) (aL (iM rfl rfl) (cW (v:=zS j a.1.length k) (cW (v:=zS n a.2.1.length o) (cW (v:=zB a.2.2) (cX (gG (dR (bD (v:=zB a.2.2) (aL (R_not rfl) (cX ?_))))))))))))
   rcases aG hm with ⟨m1,hm⟩|⟨m1,hm⟩
   ·refine dS m1 rfl (dR (aL (gW (vs:=[]) (cs:=b) bs_47 rfl (by kernel_rfl)) (tB (i:=5) (ns:=b) (us:=b) sizeOf47 q1 rfl rfl rfl rfl rfl (xM rfl) rfl rfl (fun x1 (x2:aD G e (aJ 9 K j k a.1::aJ 52 e n o a.2.1::aJ 83 K f2 f3 d5::aJ 9 K f0 f1 d4::aJ 52 d6 e8 e9 c7::box d 47 b::L) x1)=>(cW (v:=zS none 0 0) (cW (v:=zB false) (cX (aDC (dX (kS (dX (dX (dX ?_)))))))))))))
    have x3:=hr _ (zI hm).symm
    subst x3
    have hm:(some (⟨0,0,[],[]⟩,[],false))=some R:=ho
    clear hr ho
    have x4:=aD.nil (α:=aH) x2 9 K
    have x5:=aD.nil (α:=Edge) x4 83 K
    have q2:=aD.nil (α:=(List GPoint)) x5 52 e
    obtain rfl:=zI hm
    exact kS (dX (dX (aLw results14 (aIf (vs:=b) rfl aPn q2 (i:=8) rfl rfl rfl) (aGz rfl rfl) (aGz rfl rfl) ⟨e,none,0,none,0,none,0,rfl,(zL (zL (zL (zL (zL b2 b3) b4) b5) c3) i7),(aD.arr 9 [2,1,0] q2 rfl)⟩)))
   ·refine eK m1 rfl (kB (aM (dR (cW (v:=i64 0) (cX (aI [0,2,8] (fun f w=>∃ g3 g4 g5 g6 i8 i9 j0 j1 j2 j3,Hp.le e g3/\nH m g4 g5 g6=some h2/\f 5=zS i8 g4.length i9/\f 6=zS j0 g5.length j1/\f 7=zS j2 g6.length j3/\aD G g3 (aJ 83 K j2 j3 g6::aJ 9 K j0 j1 g5::aJ 52 g3 i8 i9 g4::box d 47 b::L) w) ?_ ?_))))))
    ·rintro f a67 ⟨g3,g4,g5,g6,i8,i9,j0,j1,j2,j3,x7,hm,x8,x9,y0,y1⟩
     unfold nH at hm
     exact iU (aM ⟨bO,g3,g4,g5,g6,i8,i9,j0,j1,j2,j3,(zL i7 x7),hm,x8,x9,y0,y1⟩)
    have a68:aD G e (aJ 9 K j k a.1::aJ 52 e n o a.2.1::aJ 83 K f2 f3 d5::aJ 9 K f0 f1 d4::aJ 52 e e8 e9 c7::box d 47 b::L) x0:=aD.weak (i:=4) q1 rfl (fun _ h=>aJ.mono i7 h)
    obtain ⟨a69,y2,ho⟩:=aB hm
    refine aIc [0,2,8,9,10] y2 (fun r u p c4 f w=>∃ b6 b7 b8 a2 a3 z J,Hp.le e b6/\f 5=zS b7 r.length b8/\f 6=zS a2 u.length a3/\f 7=zS z p.length J/\f 12=i64 c4/\aD G b6 (aJ 9 K j k a.1::aJ 52 e n o a.2.1::aJ 83 K z J p::aJ 9 K a2 a3 u::aJ 52 b6 b7 b8 r::box d 47 b::L) w) aF ?_
    ·rintro r u p c4 d7 f a70 hm hr ⟨b6,b7,b8,a2,a3,z,J,j4,f4,q3,m2,j5,j6⟩
     unfold iY at hm
     refine gG (dR (kH j5 (bD (v:=zS j a.1.length k) (aL (vB (len:=a.1.length) sP rfl) (aL (aFJ rfl rfl) (cX ?_))))))
     rcases aG hm with ⟨m3,hm⟩|⟨m3,hm⟩
     ·refine dS m3 rfl (kB (aM (gG (aI [0,2,8,9,10,12] (fun f w=>∃ g7 j7 j8 j9 k0 k1 k3 k4 k5 k6,Hp.le b6 g7/\xB c4 j7 j8 j9=some d7/\f 5=zS k0 j7.length k1/\f 6=zS k3 j8.length k4/\f 7=zS k5 j9.length k6/\aD G g7 (aJ 83 K k5 k6 j9::aJ 9 K k3 k4 j8::aJ 52 g7 k0 k1 j7::aJ 9 K j k a.1::aJ 52 e n o a.2.1::box d 47 b::L) w) ?_ ?_))))
      ·rintro f a71 ⟨g7,j7,j8,j9,k0,k1,k3,k4,k5,k6,y3,hm,y4,y5,y6,y7⟩
       unfold xB at hm
       exact aM (eN (kH j5 (aL (nM rfl rfl) (cW (v:=i64 (wr (c4+1))) (cX ⟨_,(zI hm).symm,bO,g7,k0,k1,k3,k4,k5,k6,(zL j4 y3),y4,y5,y6,rfl,(aD.arr 5 [3,4,0,1,2] y7 rfl)⟩)))))
      refine dR (bD (v:=zS n a.2.1.length o) (kH j5 ?_));obtain ⟨q4,m4,hm⟩:=aB hm
      have y8:=cG j6 (i:=1) rfl m4
      refine aL (dG jD rfl y8 rfl rfl rfl m4) ?_;obtain ⟨a72,y9,z0⟩:=oS (sz:=1) rfl j6 (i:=1) rfl m4
      obtain ⟨q5,q6,rfl,z1⟩:=z0
      refine aL (aAJ (t:=0) (v:=zS q5 q4.length q6) aFO y9 rfl rfl) ?_;obtain ⟨a5,z2,hm⟩:=aB hm
      refine cI (vs:=[zS q5 q4.length q6]) call30 rfl (aEi z2 j6 (z1.mono j4)) ?_
      rintro _ a73 ⟨b9,c0,c1,rfl,g8,z3⟩
      refine cW (v:=zS c0 a5.length c1) (cX (dR (cW (v:=i64 (-1)) (cX (gG (dR (cW (v:=i64 0) (cX (aI [0,2,5,6,7,8,9,10,12,13] (fun f w=>∃ k7,qB m a r u p c4 a5 k7=some d7/\f 14=i64 k7/\aD G b9 (aJ 123 b9 c0 c1 a5::aJ 9 K j k a.1::aJ 52 e n o a.2.1::aJ 83 K z J p::aJ 9 K a2 a3 u::aJ 52 b6 b7 b8 r::box d 47 b::L) w) ?_ ?_)))))))))
      ·rintro f q7 ⟨k7,hm,q8,q9⟩
       unfold qB at hm
       refine aM (sH [0,2,6,7,8,9,10,12] (fun f w=>∃ l a0 V a8 a9,Hp.le b9 l/\mG m a u p c4 a0 V=some d7/\f 5=zS a8 a0.length a9/\f 14=i64 V/\aD G l (aJ 52 l a8 a9 a0::aJ 9 K j k a.1::aJ 52 e n o a.2.1::aJ 83 K z J p::aJ 9 K a2 a3 u::box d 47 b::L) w) ?_ ?_)
       ·rintro f z4 ⟨l,a0,V,a8,a9,r0,hm,z5,z6,m5⟩
        unfold mG at hm
        refine dR (kH q3 (bD (v:=zS j a.1.length k) (kH j5 ?_)));obtain ⟨z7,m6,hm⟩:=aB hm
        have z8:=cG m5 (i:=1) rfl m6
        refine aL (dG sP rfl z8 rfl rfl rfl m6) (aL (R_ldO (t:=0) sc_9 m5 (i:=1) rfl m6 rfl rfl rfl) ?_)
        have z9:aD G l (aJ 9 K a2 a3 u::aJ 52 l a8 a9 a0::aJ 9 K j k a.1::aJ 52 e n o a.2.1::aJ 83 K z J p::box d 47 b::L) z4:=(aD.arr 5 [4,0,1,2,3] m5 rfl)
        obtain ⟨c,a00,hm⟩:=aB hm
        refine cI (vs:=[zS a2 u.length a3,str z7]) call34 rfl (aIW a00 z9) ?_
        rintro _ a74 ⟨b0,b1,rfl,a01⟩
        refine bD (v:=Value.tuple #[zS b0 c.1.length b1,i64 c.2]) (aL (iM rfl rfl) (aL (iM rfl rfl) (cW (v:=zS b0 c.1.length b1) (cW (v:=i64 c.2) (cX (dR (bD (v:=zS b0 c.1.length b1) (cW (v:=zS b0 c.1.length b1) (cX (dR (kH h4 (bD (v:=i64 c.2) (kH z6 (aL (gW (vs:=[(0,i64 m),(1,i64 c.2),(2,i64 V)]) (cs:=[i64 m,i64 c.2,i64 V]) bs_83 rfl (by kernel_rfl)) (pM (vs:=[i64 0,i64 0,i64 0]) zeroValue83 a01 rfl (fun g9 a75 a02=>(tB (i:=0) (ns:=[i64 m,i64 c.2,i64 V]) (us:=[i64 m,i64 c.2,i64 V]) sizeOf83 a02 rfl rfl rfl rfl rfl (xM rfl) rfl rfl (fun a03 (a76:aD G l (box g9 83 [i64 m,i64 c.2,i64 V]::aJ 9 K b0 b1 c.1::aJ 52 l a8 a9 a0::aJ 9 K j k a.1::aJ 52 e n o a.2.1::aJ 83 K z J p::box d 47 b::L) a03)=>(cX (dR (cW (v:=zB false) (cX (gG ?_)))))))))))))))))))))))
        refine dR (cW (v:=i64 0) (cX (aI [0,2,5,6,7,8,9,10,12,18] (fun f w=>∃ m7,xC m p c4 a0 V c m7=some d7/\f 19=zB m7/\aD G l (box g9 83 [i64 m,i64 c.2,i64 V]::aJ 9 K b0 b1 c.1::aJ 52 l a8 a9 a0::aJ 9 K j k a.1::aJ 52 e n o a.2.1::aJ 83 K z J p::box d 47 b::L) w) ?_ ?_)))
        ·rintro f a77 ⟨m7,hm,a78,a79⟩
         unfold xC at hm
         refine aM (sH [0,2,5,6,8,9,10,12] (fun f w=>∃ c9 f5 f6,nJ c4 a0 c c9=some d7/\f 7=zS f5 c9.length f6/\aD G l (aJ 83 K f5 f6 c9::aJ 9 K b0 b1 c.1::aJ 52 l a8 a9 a0::aJ 9 K j k a.1::aJ 52 e n o a.2.1::box d 47 b::L) w) ?_ ?_)
         ·rintro f a80 ⟨c9,f5,f6,hm,a04,a81⟩
          unfold nJ at hm
          refine gG (bC [0,2,5,6,7,8,9,10,12] (fun f w=>∃ m8,nI c4 a0 c c9 m8=some d7/\f 125=zB m8/\aD G l (aJ 83 K f5 f6 c9::aJ 9 K b0 b1 c.1::aJ 52 l a8 a9 a0::aJ 9 K j k a.1::aJ 52 e n o a.2.1::box d 47 b::L) w) ?_ ?_)
          ·rintro f a82 ⟨m8,hm,r1,r2⟩
           unfold nI at hm
           refine aM ?_
           rcases aG hm with ⟨m9,hm⟩|⟨m9,hm⟩
           ·refine dS m9 r1 (dR (aL (gW (vs:=[]) (cs:=b) bs_47 rfl (by kernel_rfl)) (tB (i:=5) (ns:=b) (us:=b) sizeOf47 r2 rfl rfl rfl rfl rfl (xM rfl) rfl rfl (fun a05 (a06:aD G l (aJ 83 K f5 f6 c9::aJ 9 K b0 b1 c.1::aJ 52 l a8 a9 a0::aJ 9 K j k a.1::aJ 52 e n o a.2.1::box d 47 b::L) a05)=>(cW (v:=zS none 0 0) (cW (v:=zB false) (cX (aDC (kS (dX (dX (dX ?_))))))))))))
            have a07:=hr _ (zI hm).symm
            subst a07
            have hm:(some (.inr (.inr (⟨0,0,[],[]⟩,[],false))))=some h2:=ho
            clear hr ho
            refine kS (dX (kS (dX (dX (dX ?_)))))
            have a08:=hr _ (zI hm).symm
            subst a08
            have hm:(some (⟨0,0,[],[]⟩,[],false))=some R:=ho
            clear hr ho
            have a09:=aD.nil (α:=aH) a06 9 K
            have a11:=aD.nil (α:=Edge) a09 83 K
            have r3:=aD.nil (α:=(List GPoint)) a11 52 l
            obtain rfl:=zI hm
            exact kS (dX (dX (aLw results14 (aIf (vs:=b) rfl aPn r3 (i:=8) rfl rfl rfl) (aGz rfl rfl) (aGz rfl rfl) ⟨l,none,0,none,0,none,0,rfl,(zL (zL (zL (zL (zL (zL (zL (zL b2 b3) b4) b5) c3) i7) j4) g8) r0),(aD.arr 9 [2,1,0] r3 rfl)⟩)))
           ·exact eK m9 r1 (kB (iU (aM ⟨bO,l,a0,c.1,c9,a8,a9,b0,b1,f5,f6,(zL g8 r0),hm,z5,rfl,a04,r2⟩)))
          exact aF
         exact aF
        obtain ⟨a84,a14,ho⟩:=aB hm
        refine bJ [0,2,5,6,7,8,9,10,12,18] a14 (fun n0 k8 f w=>f 19=zB n0/\f 20=i64 k8/\aD G l (box g9 83 [i64 m,i64 c.2,i64 V]::aJ 9 K b0 b1 c.1::aJ 52 l a8 a9 a0::aJ 9 K j k a.1::aJ 52 e n o a.2.1::aJ 83 K z J p::box d 47 b::L) w) aF ?_
        ·rintro n0 k8 a15 f a86 hm hr ⟨a17,n1,a6⟩
         unfold jU at hm
         refine gG (dR (kH n1 (kH m2 (aL (vB (len:=p.length) yY rfl) (aL (aFJ rfl rfl) (cX ?_))))))
         rcases aG hm with ⟨r4,hm⟩|⟨r4,hm⟩
         ·refine dS r4 rfl (kB (aM (gG (bI (bC [0,2,5,6,7,8,9,10,12,18,20] (fun f w=>∃ n2,rS k8 n2=some a15/\f 19=zB n2/\aD G l (box g9 83 [i64 m,i64 c.2,i64 V]::aJ 9 K b0 b1 c.1::aJ 52 l a8 a9 a0::aJ 9 K j k a.1::aJ 52 e n o a.2.1::aJ 83 K z J p::box d 47 b::L) w) ?_ ?_)))))
          ·rintro f a87 ⟨n2,hm,a18,a19⟩
           unfold rS at hm
           exact iU (aM (eN (kH n1 (aL (nM rfl rfl) (cW (v:=i64 (wr (k8+1))) (cX ⟨_,(zI hm).symm,bO,a18,rfl,a19⟩))))))
          refine aQT (C:=fun w'=>aD G l (box g9 83 [i64 m,i64 c.2,i64 V]::aJ 9 K b0 b1 c.1::aJ 52 l a8 a9 a0::aJ 9 K j k a.1::aJ 52 e n o a.2.1::aJ 83 K z J p::box d 47 b::L) w') Tryz_mixed (by kernel_rfl) (aD.mono a6 (gU.drew _)) (rO (fun _ a6=>qT a17) (rO (fun _ a6=>qT (v:=zB n0) rfl) ?_))
          rcases aG hm with ⟨d0,hm⟩|⟨d0,hm⟩
          ·exact aF
          ·refine aNL (g:=99) rfl rfl (aMT d0) (rO (fun _ a6=>qT m2) (aNL (g:=99) rfl rfl (aMT d0) (rO (fun _ a6=>qT n1) (aNL (g:=99) rfl rfl (aMT d0) ?_))));obtain ⟨d8,n3,hm⟩:=aB hm
           have a20:=cG a6 (i:=5) rfl n3
           exact rO (fun _ a6=>dG yY rfl a20 rfl rfl rfl n3) (aNL (g:=99) rfl rfl (aMT d0) (rO (fun _ a6=>aRL (t:=0) (vs:=[i64 d8.F,i64 d8.B,i64 d8.To]) ag_83 a6 (i:=5) rfl n3 rfl rfl rfl rfl) (aNL (g:=99) rfl rfl (aMT d0) (rO (fun _ a6=>aFr (us:=[i64 m,i64 c.2,i64 V]) ag_83 a6 (i:=0) rfl rfl rfl rfl) (aNL (g:=99) rfl rfl (aMT d0) (rO (fun _ a6=>R_eqlG (eq_83 (x:=d8) (y:=⟨m,c.2,V⟩)) rfl rfl) (rO (fun _ a6=>aOR (v:=zB (decide ((d8:Edge)=⟨m,c.2,V⟩))) d0 rfl rfl) (rO (fun _ a6=>yV (v:=zB (decide ((d8:Edge)=⟨m,c.2,V⟩))) rfl) (sJ (fun a88 a21=>(aM ⟨bO,decide ((d8:Edge)=⟨m,c.2,V⟩),hm,rfl,a21⟩)))))))))))
         ·exact aF
       refine dR (kH q8 (aL (aFJ rfl rfl) (cX ?_)))
       rcases aG hm with ⟨n4,hm⟩|⟨n4,hm⟩
       ·refine dS n4 rfl (dR (kH f4 (aL (vB (len:=r.length) jD rfl) (cW (v:=i64 (r.length:Int)) (cX (eN (kH f4 (bD (v:=zS c0 a5.length c1) ?_))))))));obtain ⟨d1,r5,a22,n5⟩:=aD.giveSp q9 (zR _) .head
        replace n5:aD G d1 (aJ 9 K j k a.1::aJ 52 e n o a.2.1::aJ 83 K z J p::aJ 9 K a2 a3 u::aJ 52 b6 b7 b8 r::box d 47 b::L) q7:=n5
        refine fQ (Kt:=d1) (xs:=([a5]:List (List GPoint))) (cs:=[zS c0 a5.length c1]) (vs:=[(0,zS c0 a5.length c1)]) jD aDI rfl rfl n5 rfl (by kernel_rfl) rfl rfl rfl ⟨⟨c0,c1,rfl,a22⟩,trivial⟩ (fun a23 a24 (a25:aD G d1 (aJ 52 d1 a23 1 ([a5]:List (List GPoint))::aJ 9 K j k a.1::aJ 52 e n o a.2.1::aJ 83 K z J p::aJ 9 K a2 a3 u::aJ 52 b6 b7 b8 r::box d 47 b::L) a24)=>?_);obtain ⟨n6,a27,hm⟩:=aB hm
        exact sO (i:=4) d1 jD underlying48 aDI rfl rfl a25 rfl (zL g8 r5) (zR _) a27 rfl rfl rfl rfl (fun _ _ _ h=>El.one h) (fun n7 n8 a28 (a29:aD G d1 (aJ 9 K j k a.1::aJ 52 e n o a.2.1::aJ 83 K z J p::aJ 9 K a2 a3 u::aJ 52 d1 n7 n8 n6::box d 47 b::L) a28)=>(cW (v:=zS n7 n6.length n8) (cX ⟨bO,d1,n6,(r.length:Int),n7,n8,r5,hm,rfl,rfl,(aD.arr 5 [4,0,1,2,3] a29 rfl)⟩)))
       ·refine eK n4 rfl ?_
        have a30:aD G b9 (aJ 123 b9 c0 c1 a5::aJ 9 K j k a.1::aJ 52 e n o a.2.1::aJ 83 K z J p::aJ 9 K a2 a3 u::aJ 52 b9 b7 b8 r::box d 47 b::L) q7:=aD.weak (i:=5) q9 rfl (fun _ h=>aJ.mono g8 h)
        exact kB (aM ⟨bO,b9,r,k7,b7,b8,(zR _),hm,f4,q8,(aD.arr 6 [5,1,2,3,4] a30 rfl)⟩)
      obtain ⟨a89,a31,ho⟩:=aB hm
      refine bJ [0,2,5,6,7,8,9,10,12,13] a31 (fun h0 f7 f w=>f 14=i64 h0/\f 15=i64 f7/\aD G b9 (aJ 123 b9 c0 c1 a5::aJ 9 K j k a.1::aJ 52 e n o a.2.1::aJ 83 K z J p::aJ 9 K a2 a3 u::aJ 52 b6 b7 b8 r::box d 47 b::L) w) ?_ ?_
      ·exact ⟨rfl,rfl,z3⟩
      ·rintro h0 f7 a32 f a90 hm hr ⟨r6,k9,l0⟩
       unfold iX at hm
       refine gG (dR (kH k9 (kH f4 (aL (vB (len:=r.length) jD rfl) (aL (aFJ rfl rfl) (cX ?_))))))
       rcases aG hm with ⟨n9,hm⟩|⟨n9,hm⟩
       ·refine dS n9 rfl (kB (aM (gG (aI [0,2,5,6,7,8,9,10,12,13,15] (fun f w=>∃ o0,qC f7 o0=some a32/\f 14=i64 o0/\aD G b9 (aJ 123 b9 c0 c1 a5::aJ 9 K j k a.1::aJ 52 e n o a.2.1::aJ 83 K z J p::aJ 9 K a2 a3 u::aJ 52 b6 b7 b8 r::box d 47 b::L) w) ?_ ?_))))
        ·rintro f a91 ⟨o0,hm,a33,a34⟩
         unfold qC at hm
         exact aM (eN (kH k9 (aL (nM rfl rfl) (cW (v:=i64 (wr (f7+1))) (cX ⟨_,(zI hm).symm,bO,a33,rfl,a34⟩)))))
        refine dR (kH f4 (kH k9 ?_));obtain ⟨r7,o1,hm⟩:=aB hm
        have a35:=cG l0 (i:=5) rfl o1
        refine aL (dG jD rfl a35 rfl rfl rfl o1) ?_;obtain ⟨a92,a36,a37⟩:=oS (sz:=1) rfl l0 (i:=5) rfl o1
        obtain ⟨r8,r9,rfl,a39⟩:=a37
        refine aL (aAJ (t:=0) (v:=zS r8 r7.length r9) aFO a36 rfl rfl) (bD (v:=zS c0 a5.length c1) ?_);obtain ⟨a93,a40,a41,a42,a43⟩:=aD.lendSp l0 (zR _) .head
        obtain ⟨a94,a44,hm⟩:=aB hm
        refine cI (vs:=[zS r8 r7.length r9,zS c0 a5.length c1]) call33 rfl (aEk a44 a42 (a39.mono (zL g8 a40)) a41) ?_
        rintro _ a95 ⟨rfl,a45⟩
        have s0:=a43 _ _ a45
        refine cX ?_
        rcases aG hm with ⟨o2,hm⟩|⟨o2,hm⟩
        ·exact dS o2 rfl (eN (kH k9 (cW (v:=i64 f7) (bQ (iU (aM ⟨bO,f7,hm,rfl,s0⟩))))))
        ·exact eK o2 rfl (kB (iU (aM ⟨bO,h0,hm,r6,s0⟩)))
       ·refine eK n9 rfl (aHY (uC (uC ?_)))
        have a47:=hr _ (zI hm).symm
        subst a47
        have hm:(qB m a r u p c4 a5 h0)=some d7:=ho
        clear hr ho
        exact aBH (aM ⟨bO,h0,hm,r6,l0⟩)
     ·refine eK m3 rfl (aHY (uC (uC ?_)))
      have a48:=hr _ (zI hm).symm
      subst a48
      have hm:(nH m r u p)=some h2:=ho
      clear hr ho
      exact aBH (aM ⟨bO,b6,r,u,p,b7,b8,a2,a3,z,J,j4,hm,f4,q3,m2,(aD.arr 2 [] j6 rfl)⟩)
  ·refine eK l9 rfl (aHY (uC (uC ?_)))
   have a50:=hr _ (zI hm).symm
   subst a50
   have hm:(jT c7 d4 d5)=some R:=ho
   clear hr ho
   exact aBH (aM ⟨bO,d6,c7,d4,d5,e8,e9,f0,f1,f2,f3,c3,hm,l8,v8,v9,h5⟩)
theorem aHL {n:Int} {R:(List Int)} (hm:oW n=some R) (l:aD G K (L) w):
  Calls prog 36 ([i64 n]:List Value).toArray w (cN fun v w'=>∃ b c,v=zS b R.length c/\aD G K (aJ 2 K b c R::L) w'):=by
 refine cC func36 ?_;unfold oW at hm
 refine aC ?_;refine vJ ([]:List Int) fun m o p=>?_
 refine aC ?_;refine aI [] (fun f w=>∃ a d e,aKh a=some R/\f 3=zS d a.length e/\aD G K (aJ 2 K d e a::L) w) aF ?_
 obtain ⟨q,j,ho⟩:=aB hm
 exact bJ [0] j (fun g k f w=>∃ h i,f 3=zS h g.length i/\f 4=i64 k/\aD G K (aJ 2 K h i g::L) w) aF aF
theorem aJa {l:(List GPoint)} {m:(List Int)} {R:(List GPoint)} (hm:aGa l m=some R) (hs:aD G K (L) w) (h3:aW K a1 c2 l) (h6:aW K a4 c5 m):
  Calls prog 37 ([zS a1 l.length c2,zS a4 m.length c5]:List Value).toArray w (cN fun v w'=>∃ q r n,v=zS q R.length r/\List.length n=List.length R/\aD G K (aJ 123 K q r (aO n R)::rows [2] n R::L) w'):=by
 refine cC func37 ?_;unfold aGa at hm
 refine aC ?_
 have b2:aD G K (rows [2] ([]:List (Dp.Hd GPoint)) ([]:List GPoint)::L) w:=aD.rowsNil (α:=GPoint) (tys:=[2]) hs
 refine fQ (Kt:=K) (xs:=aO ([]:List (Dp.Hd GPoint)) ([]:List GPoint)) (cs:=[]) (vs:=[]) jQ oT rfl rfl b2 rfl (by kernel_rfl) rfl rfl rfl trivial ?_
 intro t w9 (b4:aD G K (aJ 123 K t 0 (aO ([]:List (Dp.Hd GPoint)) ([]:List GPoint))::rows [2] ([]:List (Dp.Hd GPoint)) ([]:List GPoint)::L) w9)
 refine aC ?_;refine aI [] (fun f w=>∃ h u y o,aGQ h=some R/\f 5=zS u h.length y/\List.length o=List.length h/\aD G K (aJ 123 K u y (aO o h)::rows [2] o h::L) w) aF ?_
 obtain ⟨d4,b5,ho⟩:=aB hm
 refine bJ [0,1] b5 (fun e z f w=>∃ j k d,f 5=zS j e.length k/\f 6=i64 z/\List.length d=List.length e/\aD G K (aJ 123 K j k (aO d e)::rows [2] d e::L) w) ?_ ?_
 ·exact ⟨t,0,([]:List (Dp.Hd GPoint)),rfl,rfl,rfl,b4⟩
 ·rintro e z d5 f d6 hm hr ⟨j,k,d,d7,d8,J,d9⟩
  unfold aAi at hm
  refine aC ?_
  rcases aG hm with ⟨b6,hm⟩|⟨b6,hm⟩
  ·refine aC ?_;refine bI (aC ?_)
   obtain ⟨e0,b7,hm⟩:=aB hm
   refine aC ?_;obtain ⟨e1,e2,b8⟩:=aW.el (sz:=1) rfl h6 b7
   cases b8
   refine aC ?_;obtain ⟨a,b9,hm⟩:=aB hm
   refine aC ?_;obtain ⟨e3,e4,c0⟩:=aW.el (sz:=3) rfl h3 b9
   obtain ⟨e5,e6,rfl,c1⟩:=c0
   refine aC ?_;refine pO fun e7 e8 e9=>?_
   refine nB fun f0 c3=>?_;refine aC ?_
   obtain ⟨p,c4,f1,f2,c6⟩:=aD.lendBp c3 .head
   refine aKG [(0,0),(1,0),(2,0),(3,0),(4,0),(5,0),(6,0),(7,1),(8,0),(9,1),(10,1),(11,0)] fun f3 c7=>?_;refine aC ?_
   refine lM rfl ?_;obtain ⟨g,c8,hm⟩:=aB hm
   refine dQ call67 (sE c8 c7 (c1.mono c4)) ?_
   rintro _ c9 ⟨b,c,rfl,V⟩
   refine bQ (aM ⟨⟨_,V⟩,?_⟩)
   refine fM rfl (fun _ _=>gW (vs:=[(0,i64 a.Definition),(1,i64 a.Part),(2,zS b g.length c)]) (cs:=[i64 a.Definition,i64 a.Part,zS b g.length c]) aIk rfl (by kernel_rfl)) (lM rfl ?_)
   have d0:aD G p (rows [2] ([(b,c)]:List (Dp.Hd GPoint)) ([⟨a.Definition,a.Part,g⟩]:List GPoint)::aJ 123 K j k (aO d e)::rows [2] d e::L) c9:=aD.rowsOneS (tys:=[2]) (hd:=((b,c):Dp.Hd GPoint)) (x:=(⟨a.Definition,a.Part,g⟩:GPoint)) V
   refine fQ (Kt:=K) (xs:=aO ([(b,c)]:List (Dp.Hd GPoint)) ([⟨a.Definition,a.Part,g⟩]:List GPoint)) (cs:=[i64 a.Definition,i64 a.Part,zS b g.length c]) (vs:=[(0,zA #[i64 a.Definition,i64 a.Part,zS b g.length c])]) jQ oT rfl rfl d0 rfl (by kernel_rfl) rfl rfl rfl ⟨rfl,trivial⟩ ?_
   intro d1 d2 (a0:aD G p (aJ 123 K d1 1 (aO ([(b,c)]:List (Dp.Hd GPoint)) ([⟨a.Definition,a.Part,g⟩]:List GPoint))::rows [2] ([(b,c)]:List (Dp.Hd GPoint)) ([⟨a.Definition,a.Part,g⟩]:List GPoint)::aJ 123 K j k (aO d e)::rows [2] d e::L) d2)
   refine bQ (aM ⟨⟨_,a0⟩,?_⟩)
   refine lM rfl ?_;obtain ⟨a2,a3,hm⟩:=aB hm
   refine aJv (i:=0) (tys:=[2]) (hds:=d) (hds2:=([(b,c)]:List (Dp.Hd GPoint))) jQ underlying52 oT rfl rfl a0 J rfl rfl rfl a3 rfl rfl rfl rfl ?_
   intro a5 a6 d3 (a7:aD G p (aJ 123 K a5 a6 (aO (d++([(b,c)]:List (Dp.Hd GPoint))) a2)::rows [2] (d++([(b,c)]:List (Dp.Hd GPoint))) a2::L) d3)
   refine bQ (aM ⟨⟨_,a7⟩,?_⟩)
   refine aC ?_;refine yX ?_
   have f4:=c6 _ _ a7
   refine aC ?_;exact ⟨_,(zI hm).symm,bO,a5,a6,(d++([(b,c)]:List (Dp.Hd GPoint))),rfl,rfl,(aGB J rfl a3),nC⟩
  ·exact aF
theorem aJb {a b:(List GPoint)} {R:Bool} (hm:aGb a b=some R) (e:aD G K (L) w) (g:aW K a1 c2 a) (h:aW K a4 c5 b):
  Calls prog 38 ([zS a1 a.length c2,zS a4 b.length c5]:List Value).toArray w (cN fun v w'=>v=zB R/\aD G K (L) w'):=by
 refine cC func38 ?_;unfold aGb at hm
 refine aC ?_;refine aI [] (fun f w=>aGR=some R/\aD G K (L) w) aF ?_
 obtain ⟨i,c,ho⟩:=aB hm
 exact bL [0,1] c (fun d f w=>f 5=i64 d/\aD G K (L) w) aF aF
theorem aJc {a:(List Int)} {R:(Bool × (List Int))} (hm:iN a=some R) (hs:aD G K (aJ 2 K a1 c2 a::L) w):
  Calls prog 39 ([zS a1 a.length c2]:List Value).toArray w (cN fun v w'=>v=zB R.1/\a.length=R.2.length/\aD G K (aJ 2 K a1 c2 R.2::L) w'):=by
 let c:=aJ 2 K a1 c2 a
 refine cC func39 ?_;unfold iN at hm
 refine aC ?_;refine aI [0] (fun f w=>∃ e,aAj a e=some R/\f 3=i64 e/\aD G K (c::L) w) ?_ ?_
 ·rintro f w5 ⟨e,hm,e4,d6⟩
  unfold aAj at hm
  refine aC ?_
  rcases aG hm with ⟨c7,hm⟩|⟨c7,hm⟩
  ·exact aF
  ·refine aC ?_;refine aI [0,3] (fun f w=>∃ m,aDb a e m=some R/\f 4=i64 m/\aD G K (c::L) w) ?_ ?_
   ·rintro f d7 ⟨m,hm,d8,u⟩
    unfold aDb at hm
    refine aC ?_;obtain ⟨x,g,hm⟩:=aB hm
    have b:=cG u (i:=0) rfl g
    refine aL (dG xU rfl b rfl rfl rfl g) (aC ?_);obtain ⟨y,b1,hm⟩:=aB hm
    refine aL (dG xU rfl b rfl rfl rfl b1) ?_
    iterate 1 refine cV ?_
    refine aL (dG xU rfl b rfl rfl rfl g) ?_;obtain ⟨z,d,hm⟩:=aB hm
    refine qU (i:=0) (t:=0) (ns:=[i64 y]) (e':=(y:Int)) sizeOf2 u rfl (zR _) rfl rfl rfl g d rfl rfl (xM rfl) rfl (fun cs h=>by cases h;rfl) (fun b2 (b3:aD G K (aJ 2 K a1 c2 z::L) b2)=>?_)
    iterate 4 refine cV ?_
    refine kH (v:=zS a1 z.length c2) (Eq.trans rfl (congrArg (fun n=>zS a1 n c2) (fB d))) (aC ?_);obtain ⟨d9,J,hm⟩:=aB hm
    refine aL (dG xU rfl b rfl rfl rfl J) ?_;obtain ⟨V,j,hm⟩:=aB hm
    refine qU (i:=0) (t:=0) (ns:=[i64 x]) (e':=(x:Int)) sizeOf2 b3 rfl (zR _) rfl rfl rfl J j rfl rfl (xM rfl) rfl (fun cs h=>by cases h;rfl) (fun b4 (b5:aD G K (aJ 2 K a1 c2 V::L) b4)=>?_)
    iterate 11 refine cV ?_
    refine kH (v:=zS a1 V.length c2) (Eq.trans (Eq.trans rfl (congrArg (fun n=>zS a1 n c2) (fB d))) (congrArg (fun n=>zS a1 n c2) (fB j))) (aC ?_);refine aI [] (fun f w=>∃ o,aGS o=some R/\a.length=o.length/\aD G K (aJ 2 K a1 c2 o::L) w) aF ?_
    obtain ⟨e0,b6,ho⟩:=aB hm
    refine nO [] b6 (fun k a0 a2 f w=>f 0=zS a1 k.length c2/\f 6=i64 a0/\f 7=i64 a2/\a.length=k.length/\aD G K (aJ 2 K a1 c2 k::L) w) ?_ ?_
    ·exact ⟨(Eq.trans (Eq.trans rfl (congrArg (fun n=>zS a1 n c2) (fB d))) (congrArg (fun n=>zS a1 n c2) (fB j))),rfl,rfl,((fB d).trans (fB j)),b5⟩
    ·rintro k a0 a2 e1 f e2 hm hr ⟨a3,e3,e5,b7,b8⟩
     unfold aDa at hm
     refine aC ?_
     rcases aG hm with ⟨b9,hm⟩|⟨b9,hm⟩
     ·refine aC ?_;refine bI (aC ?_)
      obtain ⟨a4,p,hm⟩:=aB hm
      refine aL (dG xU rfl b rfl rfl rfl p) (aC ?_);obtain ⟨a5,c0,hm⟩:=aB hm
      refine aL (dG xU rfl b rfl rfl rfl c0) ?_
      iterate 1 refine cV ?_
      refine aL (dG xU rfl b rfl rfl rfl p) ?_;obtain ⟨a6,l,hm⟩:=aB hm
      refine qU (i:=0) (t:=0) (ns:=[i64 a5]) (e':=(a5:Int)) sizeOf2 b8 rfl (zR _) rfl rfl rfl p l rfl rfl (xM rfl) rfl (fun cs h=>by cases h;rfl) (fun c1 (c3:aD G K (aJ 2 K a1 c2 a6::L) c1)=>?_)
      iterate 4 refine cV ?_
      refine kH (v:=zS a1 a6.length c2) (Eq.trans a3 (congrArg (fun n=>zS a1 n c2) (fB l))) (aC ?_);obtain ⟨e6,a7,hm⟩:=aB hm
      refine aL (dG xU rfl b rfl rfl rfl a7) ?_;obtain ⟨c4,q,hm⟩:=aB hm
      refine qU (i:=0) (t:=0) (ns:=[i64 a4]) (e':=(a4:Int)) sizeOf2 c3 rfl (zR _) rfl rfl rfl a7 q rfl rfl (xM rfl) rfl (fun cs h=>by cases h;rfl) (fun c5 (c6:aD G K (aJ 2 K a1 c2 c4::L) c5)=>(aC ?_));exact ⟨_,(zI hm).symm,bO,(Eq.trans (Eq.trans a3 (congrArg (fun n=>zS a1 n c2) (fB l))) (congrArg (fun n=>zS a1 n c2) (fB q))),rfl,rfl,((b7.trans (fB l)).trans (fB q)),c6⟩
     ·exact aF
   obtain ⟨e7,c8,ho⟩:=aB hm
   refine bL [0,3] c8 (fun a8 f w=>f 4=i64 a8/\aD G K (c::L) w) aF ?_
   ·rintro a8 e8 f e9 hm hr ⟨f0,c9⟩
    unfold aGT at hm
    refine aC ?_;refine aIi ?_
    refine aC ?_;obtain ⟨f1,d0,hm⟩:=aB hm
    have f2:=cG c9 (i:=0) rfl d0
    exact aF
 obtain ⟨f3,d1,ho⟩:=aB hm
 refine bL [0] d1 (fun r f w=>f 3=i64 r/\aD G K (c::L) w) aF ?_
 ·rintro r d2 f f4 hm hr ⟨f5,f6⟩
  unfold aDc at hm
  refine aC ?_;exact bC [0,3] (fun f w=>∃ a9,aGU r a9=some d2/\f 25=zB a9/\aD G K (c::L) w) aF aF
theorem aHM {a5:(List GPoint)} {R:(List (List GPoint))} (hm:aDX a5=some R) (hs:aD G K (L) w) (h3:aW K a1 c2 a5):
  Calls prog 15 ([zS a1 a5.length c2]:List Value).toArray w (cN fun v w'=>∃ K' c0 c1,v=zS c0 R.length c1/\Hp.le K K'/\aD G K' (aJ 52 K' c0 c1 R::L) w'):=by
 refine cC func15 ?_;unfold aDX at hm
 refine aC ?_;refine fQ (Kt:=K) (xs:=([]:List (List GPoint))) (cs:=[]) (vs:=[]) jD aDI rfl rfl hs rfl (by kernel_rfl) rfl rfl rfl trivial (fun a4 w5 (d7:aD G K (aJ 52 K a4 0 ([]:List (List GPoint))::L) w5)=>(aC ?_))
 obtain ⟨r7,q8,hm⟩:=aB hm
 refine dQ call36 (aHL q8 d7) ?_
 rintro _ k8 ⟨c,d,rfl,k9⟩
 refine aC ?_;refine bI ?_
 obtain ⟨l0,d9,ho⟩:=aB hm
 refine bJ [0] d9 (fun e b f w=>∃ g j k,Hp.le K g/\f 3=zS j e.length k/\f 4=zS c b.length d/\aD G g (aJ 2 K c d b::aJ 52 g j k e::L) w) aF ?_
 ·rintro e b u f l1 hm hr ⟨g,j,k,z,l2,e0,e1⟩
  unfold oZ at hm
  refine aI [0] (fun f w=>∃ x J V a0 a2,Hp.le g x/\aFA J V=some u/\f 3=zS a0 J.length a2/\f 4=zS c V.length d/\aD G x (aJ 52 x a0 a2 J::aJ 2 K c d V::L) w) ?_ ?_
  ·rintro f l3 ⟨x,J,V,a0,a2,e2,hm,e3,e4,l4⟩
   unfold aFA at hm
   refine aC ?_;exact ⟨_,(zI hm).symm,bO,x,a0,a2,(zL z e2),e3,e4,nC⟩
  refine aC ?_;obtain ⟨l5,e5,e6,e7,e8⟩:=aD.lendSp e1 z .head
  obtain ⟨a7,e9,hm⟩:=aB hm
  refine dQ call37 (aJa e9 e7 (h3.mono (zL z e5)) e6) ?_
  rintro _ f0 ⟨l6,l7,l8,rfl,f1,f2⟩
  have f3:=e8 _ _ f2
  iterate 1 refine cV ?_
  obtain ⟨a,p,a8,_,c3,_⟩:=aD.lendD' (i:=1) f3 f1 rfl rfl
  replace c3:aD G a (aJ 2 K c d b::aJ 52 g j k e::L) f0:=c3
  refine aC ?_;refine aI [0,3,4,5] (fun f w=>∃ y,aBy e b a7 y=some u/\f 6=i64 y/\aD G a (aJ 2 K c d b::aJ 52 g j k e::L) w) ?_ ?_
  ·rintro f l9 ⟨y,hm,m0,b0⟩
   unfold aBy at hm
   iterate 1 refine cV ?_
   refine sH [0,4] (fun f w=>∃ o q r,mC b o=some u/\f 3=zS q o.length r/\aD G a (aJ 52 a q r o::aJ 2 K c d b::L) w) ?_ ?_
   ·rintro f f4 ⟨o,q,r,hm,f5,m1⟩
    unfold mC at hm
    refine aC ?_
    have f6:aD G a (aJ 2 K c d b::aJ 52 a q r o::L) f4:=nC
    obtain ⟨f7,f8,hm⟩:=aB hm
    refine dQ call39 (aJc f8 f6) ?_
    rintro _ m2 ⟨rfl,f9,m3⟩
    refine aC ?_
    rcases aG hm with ⟨g0,hm⟩|⟨g0,hm⟩
    ·refine aC ?_;refine aDC (kS (dX (dX ?_)))
     have g1:=hr _ (zI hm).symm
     subst g1
     have hm:(some o)=some R:=ho
     clear hr ho
     obtain rfl:=zI hm
     exact kS (aRJ results15 rfl ⟨a,q,r,rfl,(zL z p),nC⟩)
    ·refine aC ?_;exact ⟨bO,a,o,f7.2,q,r,p,hm,f5,(Eq.trans e0 (congrArg (fun n=>zS c n d) f9)),nC⟩
   iterate 1 refine cV ?_
   refine bC [0,3,4,5,6] (fun f w=>∃ b1,oX e b a7 y b1=some u/\f 41=zB b1/\aD G a (aJ 2 K c d b::aJ 52 g j k e::L) w) ?_ ?_
   ·rintro f g3 ⟨b1,hm,m4,c4⟩
    unfold oX at hm
    refine aC ?_
    rcases aG hm with ⟨g4,hm⟩|⟨g4,hm⟩
    ·refine aC ?_;refine fQ (Kt:=a) (xs:=([[]]:List (List GPoint))) (cs:=[zS none 0 0]) (vs:=[(0,zS none 0 0)]) jD aDI rfl rfl c4 rfl (by kernel_rfl) rfl rfl rfl ⟨⟨none,0,rfl,wT _⟩,trivial⟩ (fun g5 g6 (g7:aD G a (aJ 52 a g5 1 ([[]]:List (List GPoint))::aJ 2 K c d b::aJ 52 g j k e::L) g6)=>?_)
     obtain ⟨g8,g9,hm⟩:=aB hm
     refine sO (i:=1) a jD underlying48 aDI rfl rfl g7 rfl p (zR _) g9 rfl rfl rfl rfl (fun _ _ _ h=>El.one h) (fun l m h0 (m5:aD G a (aJ 2 K c d b::aJ 52 a l m g8::L) h0)=>(aC ?_));refine aI [0,4,5,6] (fun f w=>∃ a3,aBx b a7 y a3=some u/\f 3=zS l a3.length m/\aD G a (aJ 2 K c d b::aJ 52 a l m a3::L) w) ?_ ?_
     ·rintro f m6 ⟨a3,hm,h1,c5⟩
      unfold aBx at hm
      refine aC ?_;obtain ⟨m7,b2,hm⟩:=aB hm
      have h2:=cG c5 (i:=1) rfl b2
      refine aL (dG jD rfl h2 rfl rfl rfl b2) ?_;obtain ⟨c6,c7,hm⟩:=aB hm
      refine WO_stG (i:=1) sizeOf52 c5 rfl (zR _) rfl rfl rfl b2 c7 a8 (fun h4 (m8:aD G a (aJ 2 K c d b::aJ 52 a l m c6::L) h4)=>(aC ?_));exact ⟨bO,c6,l,m,hm,(Eq.trans h1 (congrArg (fun n=>zS l n m) (fB c7))),nC⟩
     obtain ⟨m9,h5,ho⟩:=aB hm
     refine bJ [0,4,5,6] h5 (fun b3 c8 f w=>f 3=zS l b3.length m/\f 7=i64 c8/\aD G a (aJ 2 K c d b::aJ 52 a l m b3::L) w) aF ?_
     ·rintro b3 c8 n0 f n1 hm hr ⟨h6,n2,b4⟩
      unfold mD at hm
      refine aC ?_
      rcases aG hm with ⟨h7,hm⟩|⟨h7,hm⟩
      ·refine aC ?_;refine bI (aC ?_)
       obtain ⟨h8,b5,hm⟩:=aB hm
       have c9:=cG b4 (i:=1) rfl b5
       refine aL (dG jD rfl c9 rfl rfl rfl b5) ?_;obtain ⟨n3,h9,i0⟩:=oS (sz:=1) rfl b4 (i:=1) rfl b5
       obtain ⟨i1,i2,rfl,i3⟩:=i0
       refine aL (aAJ (t:=0) (v:=zS i1 h8.length i2) aFO h9 rfl rfl) ?_;obtain ⟨n4,d0,hm⟩:=aB hm
       refine aL (dG jD rfl c9 rfl rfl rfl d0) ?_;obtain ⟨i4,d1,hm⟩:=aB hm
       refine WO_stG (i:=1) sizeOf52 b4 rfl (zR _) rfl rfl rfl d0 d1 i3 (fun i5 (i6:aD G a (aJ 2 K c d b::aJ 52 a l m i4::L) i5)=>(aC ?_));exact ⟨_,(zI hm).symm,bO,(Eq.trans h6 (congrArg (fun n=>zS l n m) (fB d1))),rfl,i6⟩
      ·exact aF
    ·refine aC ?_
     have n5:aD G a (aJ 2 K c d b::aJ 52 a j k e::L) g3:=aD.weak (i:=1) c4 rfl (fun _ h=>aJ.mono p h)
     exact aF
   refine aC ?_
   rcases aG hm with ⟨i7,hm⟩|⟨i7,hm⟩
   ·exact aF
   ·refine aC ?_;obtain ⟨i8,b6,hm⟩:=aB hm
    have i9:=cG b0 (i:=1) rfl b6
    refine aL (dG jD rfl i9 rfl rfl rfl b6) (aC ?_);obtain ⟨n6,j0,j1⟩:=oS (sz:=1) rfl b0 (i:=1) rfl b6
    obtain ⟨j2,j3,rfl,j4⟩:=j1
    refine aL (aAJ (t:=0) (v:=zS j2 i8.length j3) aFO j0 rfl rfl) (aC ?_);obtain ⟨n7,j5,hm⟩:=aB hm
    exact dQ call33 (aEk j5 b0 (j4.mono p) a8) aF
  obtain ⟨n8,j6,ho⟩:=aB hm
  refine bL [0,3,4,5] j6 (fun b7 f w=>f 6=i64 b7/\aD G a (aJ 2 K c d b::aJ 52 g j k e::L) w) aF ?_
  ·rintro b7 j7 f n9 hm hr ⟨o0,b8⟩
   unfold oY at hm
   iterate 2 refine cV ?_
   refine bC [0,3,4,5,6] (fun f w=>∃ d2,vX b7 d2=some j7/\f 27=zB d2/\aD G a (aJ 2 K c d b::aJ 52 g j k e::L) w) aF (aC ?_)
   rcases aG hm with ⟨j8,hm⟩|⟨j8,hm⟩
   ·refine aC ?_;obtain ⟨j9,b9,hm⟩:=aB hm
    have k0:=cG b8 (i:=1) rfl b9
    refine aL (dG jD rfl k0 rfl rfl rfl b9) (aC ?_);obtain ⟨o1,k1,k2⟩:=oS (sz:=1) rfl b8 (i:=1) rfl b9
    obtain ⟨k3,k4,rfl,k5⟩:=k2
    refine aL (aAJ (t:=0) (v:=zS k3 j9.length k4) aFO k1 rfl rfl) (aC ?_);obtain ⟨o2,k6,hm⟩:=aB hm
    exact dQ call38 (aJb k6 b8 a8 (k5.mono p)) aF
   ·exact aF
theorem aFg {s_:aR} {R:(Int × Int)} (hm:aAk s_=some R) (hs:aD G K (L) w) (j:aW K a1 c2 s_.Definitions) (k:aW K a4 c5 s_.Components) (l:aW K a7 c8 s_.Meetings) (m:aW K a10 c11 s_.Allowed) (n:aW K a13 c14 s_.Hidden):
  Calls prog 5 ([zA #[zS a1 s_.Definitions.length c2,zS a4 s_.Components.length c5,zS a7 s_.Meetings.length c8,zS a10 s_.Allowed.length c11,zS a13 s_.Hidden.length c14]]:List Value).toArray w (cN fun v w'=>v=Value.tuple #[i64 R.1,i64 R.2]/\aD G K (L) w'):=by
 refine cC func5 ?_;unfold aAk at hm
 refine aC ?_;refine sL fun u c9 x=>?_
 refine aC ?_;obtain ⟨d0,a,y,z,J⟩:=aD.lendBp x .head
 obtain ⟨d1,V,hm⟩:=aB hm
 refine dQ call13 (aMh V z y (j.mono a) (k.mono a) (l.mono a) (m.mono a) (n.mono a)) ?_
 rintro _ a0 ⟨rfl,a2⟩
 have a3:=J _ _ a2
 refine aC ?_
 rcases aG hm with ⟨a5,hm⟩|⟨a5,hm⟩
 ·exact aF
 ·refine aC ?_;obtain ⟨a6,b,a8,c,_⟩:=aD.lendBp a3 .head
  replace c:aD G a6 (L) a0:=c
  obtain ⟨a9,b0,hm⟩:=aB hm
  refine cI (vs:=[fL (some ⟨u,0,none⟩) 0]) call14 (lst1 (elp_b rfl)) (aFf b0 c a8 (j.mono b) (k.mono b) (l.mono b) (m.mono b) (n.mono b)) ?_
  rintro _ d2 ⟨d,d3,d4,d5,d6,b1,b2,rfl,d7,d8⟩
  refine aC ?_;refine pO fun d9 e0 e1=>?_
  refine nB fun e2 e3=>?_;refine aC ?_
  rcases aG hm with ⟨b3,hm⟩|⟨b3,hm⟩
  ·exact aF
  ·refine aC ?_;refine aI [] (fun f w=>∃ o p,Hp.le d o/\aHx p=some R/\f 7=i64 p/\aD G o (L) w) aF ?_
   obtain ⟨e4,b4,ho⟩:=aB hm
   refine bJ [5] b4 (fun q r f w=>∃ e,Hp.le d e/\f 7=i64 q/\f 8=i64 r/\aD G e (aJ 52 d b1 b2 a9.2.1::L) w) aF ?_
   ·rintro q r e5 f e6 hm hr ⟨e,b5,e7,e8,g⟩
    unfold jV at hm
    refine aC ?_
    rcases aG hm with ⟨b6,hm⟩|⟨b6,hm⟩
    ·refine aC ?_;refine bI (aC ?_)
     obtain ⟨b7,h,hm⟩:=aB hm
     have b8:=cG g (i:=0) rfl h
     refine aL (dG jD rfl b8 rfl rfl rfl h) ?_;obtain ⟨e9,b9,c0⟩:=oS (sz:=1) rfl g (i:=0) rfl h
     obtain ⟨c1,c3,rfl,c4⟩:=c0
     refine aL (aAJ (t:=0) (v:=zS c1 b7.length c3) aFO b9 rfl rfl) ?_;obtain ⟨f0,c6,hm⟩:=aB hm
     exact dQ call15 (aHM c6 g (c4.mono b5)) aF
    ·exact aF
theorem aKs {a R:aP} (hm:aPr a=some R) (b:aD G K (L) w):
  Calls prog 279 ([zA #[i64 a.Kind,i64 a.Value]]:List Value).toArray w (cN fun v w'=>v=zA #[i64 R.Kind,i64 R.Value]/\aD G K (L) w'):=by
 exact aF
theorem aJd {a R:(List aP)} (hm:aJF a=some R) (r:aD G K (L) w) (u:aW K a1 c2 a):
  Calls prog 227 ([zS a1 a.length c2]:List Value).toArray w (cN fun v w'=>∃ l m,v=zS l R.length m/\aD G K (aJ 337 K l m R::L) w'):=by
 refine cC func227 ?_;unfold aJF at hm
 refine aC ?_;obtain ⟨b,x,hm⟩:=aB hm
 refine aOV (e:=(⟨0,0⟩:aP)) aSb ez_337 rfl rfl r rfl rfl rfl x rfl (fun c y (b0:aD G K (aJ 337 K c b.length b::L) y)=>(aC ?_));refine aI [] (fun f w=>∃ g,aLW g=some R/\f 3=zS c g.length b.length/\aD G K (aJ 337 K c b.length g::L) w) aF ?_
 obtain ⟨b1,z,ho⟩:=aB hm
 refine bJ [0] z (fun j o f w=>f 3=zS c j.length b.length/\f 4=i64 o/\aD G K (aJ 337 K c b.length j::L) w) aF ?_
 ·rintro j o b2 f b3 hm hr ⟨J,b4,V⟩
  unfold aAl at hm
  refine aC ?_
  rcases aG hm with ⟨a0,hm⟩|⟨a0,hm⟩
  ·refine aC ?_;refine bI (aC ?_)
   obtain ⟨b5,a2,hm⟩:=aB hm
   refine aC ?_;obtain ⟨b6,b7,a3⟩:=aW.el (sz:=2) rfl u a2
   cases a3
   refine aC ?_;obtain ⟨d,a4,hm⟩:=aB hm
   refine dQ call279 (aKs a4 V) ?_
   rintro _ b8 ⟨rfl,p⟩
   obtain ⟨b9,k,hm⟩:=aB hm
   have a5:=cG p (i:=0) rfl k
   refine aL (dG aSb rfl a5 rfl rfl rfl k) ?_;obtain ⟨a7,q,hm⟩:=aB hm
   refine qU (i:=0) (t:=0) (ns:=[i64 d.Kind,i64 d.Value]) (e':=(⟨d.Kind,d.Value⟩:aP)) sizeOf337 p rfl (zR _) rfl rfl rfl k q rfl rfl (xM rfl) rfl (fun cs h=>by cases h;rfl) (fun a8 (a9:aD G K (aJ 337 K c b.length a7::L) a8)=>(aC ?_));exact ⟨_,(zI hm).symm,bO,(Eq.trans J (congrArg (fun n=>zS c n b.length) (fB q))),rfl,a9⟩
  ·exact aF
theorem aOu {a R:(List (List aP))} (hm:aGV a=some R) (z:aD G K (L) w) (J:aW K a1 c2 a):
  Calls prog 171 ([zS a1 a.length c2]:List Value).toArray w (cN fun v w'=>∃ q r m,v=zS q R.length r/\List.length m=List.length R/\aD G K (aJ 274 K q r (aO m R)::rows [337] m R::L) w'):=by
 refine cC func171 ?_;unfold aGV at hm
 refine aC ?_;obtain ⟨b,t,hm⟩:=aB hm
 refine aRS (tys:=[337]) (hd:=((none,0):Dp.Hd (List aP))) aPj ez_274 rfl rfl z rfl rfl rfl t rfl (pcs_nil _) ?_
 intro d V (a0:aD G K (aJ 274 K d b.length (aO (List.replicate (a.length:Int).toNat ((none,0):Dp.Hd (List aP))) b)::rows [337] (List.replicate (a.length:Int).toNat ((none,0):Dp.Hd (List aP))) b::L) V)
 refine aC ?_;refine aI [] (fun f w=>∃ e o,aKi e=some R/\f 3=zS d e.length b.length/\List.length o=List.length e/\aD G K (aJ 274 K d b.length (aO o e)::rows [337] o e::L) w) aF ?_
 obtain ⟨b5,a2,ho⟩:=aB hm
 refine bJ [0] a2 (fun g i32 f w=>∃ c,f 3=zS d g.length b.length/\f 4=i64 i32/\List.length c=List.length g/\aD G K (aJ 274 K d b.length (aO c g)::rows [337] c g::L) w) ?_ ?_
 ·exact ⟨(List.replicate (a.length:Int).toNat ((none,0):Dp.Hd (List aP))),rfl,rfl,(aFK (hd:=((none,0):Dp.Hd (List aP))) t).2.1,a0⟩
 ·rintro g i32 b6 f b7 hm hr ⟨c,a3,b8,k,a4⟩
  unfold vY at hm
  refine aC ?_
  rcases aG hm with ⟨a5,hm⟩|⟨a5,hm⟩
  ·refine aC ?_;refine bI (aC ?_)
   obtain ⟨b9,a7,hm⟩:=aB hm
   refine aC ?_;obtain ⟨c0,c1,a8⟩:=aW.el (sz:=1) rfl J a7
   obtain ⟨c3,c4,rfl,a9⟩:=a8
   refine aC ?_;obtain ⟨b0,b1,hm⟩:=aB hm
   refine dQ call227 (aJd b1 a4 a9) ?_
   rintro _ c5 ⟨h,j,rfl,u⟩
   obtain ⟨c6,l,hm⟩:=aB hm
   obtain ⟨⟨c7,c8⟩,x⟩:=aGA k l
   have b2:=cG u (i:=1) rfl (rP k l x)
   refine aL (dG aPj rfl b2 rfl rfl rfl l) ?_;obtain ⟨y,p,hm⟩:=aB hm
   refine aMW (i:=0) (tys:=[337]) (hd':=(h,j)) (e':=b0) (hds:=c) sizeOf274 u k rfl rfl rfl rfl rfl l x p rfl ?_
   intro b3 (b4:aD G K (aJ 274 K d b.length (aO (List.set c i32.toNat (h,j)) y)::rows [337] (List.set c i32.toNat (h,j)) y::L) b3)
   refine aC ?_;exact ⟨_,(zI hm).symm,bO,(List.set c i32.toNat (h,j)),(Eq.trans a3 (congrArg (fun n=>zS d n b.length) (fB p))),rfl,(aCC (hd:=((h,j):Dp.Hd (List aP))) k p),b4⟩
  ·exact aF
theorem aKt {a R:Part} (hm:aPs a=some R) (e:aD G K (L) w) (g:aW K a1 c2 a.Arguments):
  Calls prog 113 ([zA #[i64 a.Kind,i64 a.Number,str a.Name,zS a1 a.Arguments.length c2]]:List Value).toArray w (cN fun v w'=>∃ c d b,v=zA #[i64 R.Kind,i64 R.Number,str R.Name,zS c R.Arguments.length d]/\List.length b=List.length R.Arguments/\aD G K (aJ 274 K c d (aO b R.Arguments)::rows [337] b R.Arguments::L) w'):=by
 exact aF
theorem aPE {a R:(List Part)} (hm:aJG a=some R) (hs:aD G K (L) w) (h3:aW K a1 c2 a):
  Calls prog 73 ([zS a1 a.length c2]:List Value).toArray w (cN fun v w'=>∃ t u p,v=zS t R.length u/\List.length p=List.length R/\aD G K (aJ 186 K t u (aO p R)::rows [274,337] p R::L) w'):=by
 refine cC func73 ?_;unfold aJG at hm
 refine aC ?_;obtain ⟨c,x,hm⟩:=aB hm
 refine aRS (tys:=[274,337]) (hd:=(((none,0),[]):Dp.Hd Part)) aLD ez_186 rfl rfl hs rfl rfl rfl x rfl (aRZ _) ?_
 intro d w7 (a4:aD G K (aJ 186 K d c.length (aO (List.replicate (a.length:Int).toNat (((none,0),[]):Dp.Hd Part)) c)::rows [274,337] (List.replicate (a.length:Int).toNat (((none,0),[]):Dp.Hd Part)) c::L) w7)
 refine aC ?_;refine aI [] (fun f w=>∃ k q,aLX k=some R/\f 3=zS d k.length c.length/\List.length q=List.length k/\aD G K (aJ 186 K d c.length (aO q k)::rows [274,337] q k::L) w) aF ?_
 obtain ⟨c0,a5,ho⟩:=aB hm
 refine bJ [0] a5 (fun e i32 f w=>∃ b,f 3=zS d e.length c.length/\f 4=i64 i32/\List.length b=List.length e/\aD G K (aJ 186 K d c.length (aO b e)::rows [274,337] b e::L) w) ?_ ?_
 ·exact ⟨(List.replicate (a.length:Int).toNat (((none,0),[]):Dp.Hd Part)),rfl,rfl,(aFK (hd:=(((none,0),[]):Dp.Hd Part)) x).2.1,a4⟩
 ·rintro e i32 c1 f c3 hm hr ⟨b,a7,c4,m,a8⟩
  unfold aAm at hm
  refine aC ?_
  rcases aG hm with ⟨a9,hm⟩|⟨a9,hm⟩
  ·refine aC ?_;refine bI (aC ?_)
   obtain ⟨c5,b0,hm⟩:=aB hm
   refine aC ?_;obtain ⟨c6,c7,b1⟩:=aW.el (sz:=4) rfl h3 b0
   obtain ⟨c8,c9,rfl,b2⟩:=b1
   refine aC ?_;obtain ⟨l,b3,hm⟩:=aB hm
   refine dQ call113 (aKt b3 a8 b2) ?_
   rintro _ y ⟨h,j,g,rfl,b4,z⟩
   obtain ⟨d0,o,hm⟩:=aB hm
   obtain ⟨⟨⟨d1,d2⟩,d3⟩,J⟩:=aGA m o
   have b5:=cG z (i:=2) rfl (rP m o J)
   refine aL (dG aLD rfl b5 rfl rfl rfl o) ?_
   have b6:aD G K (aJ 274 K h j (aO g l.Arguments)::rows [337] g l.Arguments::aJ 186 K d c.length (aO b e)::rows [274,337] b e::L) y:=z
   have b7:aD G K (aJ 274 K h j (aO g l.Arguments)::aLB [337] g l.Arguments::aJ 186 K d c.length (aO b e)::rows [274,337] b e::L) y:=aD.closeL (i:=1) b6 rfl b4
   obtain ⟨V,r,hm⟩:=aB hm
   refine aMW (i:=0) (tys:=[274,337]) (hd':=(((h,j),g):Dp.Hd Part)) (e':=(l:Part)) (hds:=b) sizeOf186 b7 m rfl rfl rfl rfl rfl o J r rfl ?_
   intro b8 (b9:aD G K (aJ 186 K d c.length (aO (List.set b i32.toNat ((h,j),g)) V)::rows [274,337] (List.set b i32.toNat ((h,j),g)) V::L) b8)
   refine aC ?_;exact ⟨_,(zI hm).symm,bO,(List.set b i32.toNat ((h,j),g)),(Eq.trans a7 (congrArg (fun n=>zS d n c.length) (fB r))),rfl,(aCC (hd:=(((h,j),g):Dp.Hd Part)) m r),b9⟩
  ·exact aF
theorem aCt {a R:Definition} (hm:aDY a=some R) (e:aD G K (L) w) (g:aW K a1 c2 a.Body):
  Calls prog 40 ([zA #[str a.Name,i64 a.Parameters,zS a1 a.Body.length c2]]:List Value).toArray w (cN fun v w'=>∃ c d b,v=zA #[str R.Name,i64 R.Parameters,zS c R.Body.length d]/\List.length b=List.length R.Body/\aD G K (aJ 186 K c d (aO b R.Body)::rows [274,337] b R.Body::L) w'):=by
 exact aF
theorem aBV {a R:(List Definition)} (hm:xD a=some R) (hs:aD G K (L) w) (h3:aW K a1 c2 a):
  Calls prog 16 ([zS a1 a.length c2]:List Value).toArray w (cN fun v w'=>∃ t u p,v=zS t R.length u/\List.length p=List.length R/\aD G K (aJ 90 K t u (aO p R)::rows [186,274,337] p R::L) w'):=by
 refine cC func16 ?_;unfold xD at hm
 refine aC ?_;obtain ⟨c,x,hm⟩:=aB hm
 refine aRS (tys:=[186,274,337]) (hd:=(((none,0),[]):Dp.Hd Definition)) aRb ez_90 rfl rfl hs rfl rfl rfl x rfl (aKH _) ?_
 intro d w7 (a4:aD G K (aJ 90 K d c.length (aO (List.replicate (a.length:Int).toNat (((none,0),[]):Dp.Hd Definition)) c)::rows [186,274,337] (List.replicate (a.length:Int).toNat (((none,0),[]):Dp.Hd Definition)) c::L) w7)
 refine aC ?_;refine aI [] (fun f w=>∃ k q,aDZ k=some R/\f 3=zS d k.length c.length/\List.length q=List.length k/\aD G K (aJ 90 K d c.length (aO q k)::rows [186,274,337] q k::L) w) aF ?_
 obtain ⟨c0,a5,ho⟩:=aB hm
 refine bJ [0] a5 (fun e i32 f w=>∃ b,f 3=zS d e.length c.length/\f 4=i64 i32/\List.length b=List.length e/\aD G K (aJ 90 K d c.length (aO b e)::rows [186,274,337] b e::L) w) ?_ ?_
 ·exact ⟨(List.replicate (a.length:Int).toNat (((none,0),[]):Dp.Hd Definition)),rfl,rfl,(aFK (hd:=(((none,0),[]):Dp.Hd Definition)) x).2.1,a4⟩
 ·rintro e i32 c1 f c3 hm hr ⟨b,a7,c4,m,a8⟩
  unfold mS at hm
  refine aC ?_
  rcases aG hm with ⟨a9,hm⟩|⟨a9,hm⟩
  ·refine aC ?_;refine bI (aC ?_)
   obtain ⟨c5,b0,hm⟩:=aB hm
   refine aC ?_;obtain ⟨c6,c7,b1⟩:=aW.el (sz:=3) rfl h3 b0
   obtain ⟨c8,c9,rfl,b2⟩:=b1
   refine aC ?_;obtain ⟨l,b3,hm⟩:=aB hm
   refine dQ call40 (aCt b3 a8 b2) ?_
   rintro _ y ⟨h,j,g,rfl,b4,z⟩
   obtain ⟨d0,o,hm⟩:=aB hm
   obtain ⟨⟨⟨d1,d2⟩,d3⟩,J⟩:=aGA m o
   have b5:=cG z (i:=2) rfl (rP m o J)
   refine aL (dG aRb rfl b5 rfl rfl rfl o) ?_
   have b6:aD G K (aJ 186 K h j (aO g l.Body)::rows [274,337] g l.Body::aJ 90 K d c.length (aO b e)::rows [186,274,337] b e::L) y:=z
   have b7:aD G K (aJ 186 K h j (aO g l.Body)::aLB [274,337] g l.Body::aJ 90 K d c.length (aO b e)::rows [186,274,337] b e::L) y:=aD.closeL (i:=1) b6 rfl b4
   obtain ⟨V,r,hm⟩:=aB hm
   refine aMW (i:=0) (tys:=[186,274,337]) (hd':=(((h,j),g):Dp.Hd Definition)) (e':=(l:Definition)) (hds:=b) sizeOf90 b7 m rfl rfl rfl rfl rfl o J r rfl ?_
   intro b8 (b9:aD G K (aJ 90 K d c.length (aO (List.set b i32.toNat ((h,j),g)) V)::rows [186,274,337] (List.set b i32.toNat ((h,j),g)) V::L) b8)
   refine aC ?_;exact ⟨_,(zI hm).symm,bO,(List.set b i32.toNat ((h,j),g)),(Eq.trans a7 (congrArg (fun n=>zS d n c.length) (fB r))),rfl,(aCC (hd:=(((h,j),g):Dp.Hd Definition)) m r),b9⟩
  ·exact aF
end Gv
