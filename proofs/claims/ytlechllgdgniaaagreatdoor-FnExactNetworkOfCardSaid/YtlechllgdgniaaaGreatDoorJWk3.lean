/- Walks, printed by program. -/
import Derived.Test.YtlechllgdgniaaaGreatDoorJWk1
set_option linter.all false
namespace Gv
open Gv.Hp renaming le_refl→zR
open Go.Value renaming slice→zS,bool→zB,agg→zA
open Option.some renaming inj→zI
open Gv.Hp renaming le_trans→zL
open Go Go.Proofs Go.Proofs.Tryz
set_option maxRecDepth 20000
set_option maxHeartbeats 40000000
variable {G:pJ} {K Kf:Hp} {L:List hQ} {w:World} {a1 a4 a7 a10 a13 a16 a3:Option Addr} {c2 c5 c8 c11 c14 c17 c4:Nat}
theorem aJS {a:(List bK)} {R:Bool} (hm:aAu a=some R) (d:aN G K (L) w) (e:cE K a1 c2 a):
  Calls prog 106 ([zS a1 a.length c2]:List Value).toArray w (eR fun v w'=>v=zB R/\aN G K (L) w'):=by
 refine aQ func106 rfl (by kernel_rfl) (by show (1:Nat)<=16;decide) ?_;unfold aAu at hm
 refine aL (aD (v:=zB false) (aG (aO (aL (aD (v:=i64 0) (aG (bR [] (fun f w=>xP=some R/\aN G K (L) w) cA ?_)))))));obtain ⟨g,b,ho⟩:=aC hm
 exact dS [0] b (fun c f w=>f 3=i64 c/\aN G K (L) w) cA cA
theorem aGU {a:(List bK)} {R:Bool} (hm:aBu a=some R) (h:aN G K (L) w) (i:cE K a1 c2 a):
  Calls prog 70 ([zS a1 a.length c2]:List Value).toArray w (eR fun v w'=>v=zB R/\aN G K (L) w'):=by
 refine aQ func70 rfl (by kernel_rfl) (by show (1:Nat)<=28;decide) ?_;unfold aBu at hm
 refine aL (aD (v:=zB false) (aG (aO (aO (cW [0] (fun f w=>∃ b,wK a b=some R/\f 11=zB b/\aN G K (L) w) ?_ ?_)))))
 ·rintro f j ⟨b,hm,d,k⟩
  unfold wK at hm
  refine aB ?_
  rcases aH hm with ⟨c,hm⟩|⟨c,hm⟩
  ·exact cA
  ·refine aJ c d (aW (aB (aO (aL (aD (v:=i64 1) (aG (bR [] (fun f w=>aBW=some R/\aN G K (L) w) cA ?_)))))));obtain ⟨l,e,ho⟩:=aC hm
   exact dS [0] e (fun g f w=>f 3=i64 g/\aN G K (L) w) cA cA
 exact cA
theorem aLK {s_:cP} {a:Nat} {R:Int} (hm:aEj s_=some R) (b:aN G K (L) w) (c:iR K a1 a [zS a4 s_.Definitions.length c5,zS a7 s_.Components.length c8,zS a10 s_.Meetings.length c11,zS a13 s_.Allowed.length c14,zS a16 s_.Hidden.length c17]) (d:cE K a4 c5 s_.Definitions) (e:cE K a7 c8 s_.Components) (g:cE K a10 c11 s_.Meetings) (h:cE K a13 c14 s_.Allowed) (i:cE K a16 c17 s_.Hidden):
  Calls prog 42 ([eJ a1 a]:List Value).toArray w (eR fun v w'=>v=i64 R/\aN G K (L) w'):=by
 exact cA
theorem aPQ {s_:cP} {a:Nat} {R:Bool} (hm:aIi s_=some R) (b:aN G K (L) w) (c:iR K a1 a [zS a4 s_.Definitions.length c5,zS a7 s_.Components.length c8,zS a10 s_.Meetings.length c11,zS a13 s_.Allowed.length c14,zS a16 s_.Hidden.length c17]) (d:cE K a4 c5 s_.Definitions) (e:cE K a7 c8 s_.Components) (g:cE K a10 c11 s_.Meetings) (h:cE K a13 c14 s_.Allowed) (i:cE K a16 c17 s_.Hidden):
  Calls prog 17 ([eJ a1 a]:List Value).toArray w (eR fun v w'=>v=zB R/\aN G K (L) w'):=by
 exact cA
theorem aNU {e R:(List bP)} (hm:aHw e=some R) (c:aN G K (L) w) (d:cE K a1 c2 e):
  Calls prog 151 ([zS a1 e.length c2]:List Value).toArray w (eR fun v w'=>∃ a b,v=zS a R.length b/\aN G K (bB 242 K a b R::L) w'):=by
 exact cA
theorem aKH {b R:(List (List bP))} (hm:aCx b=some R) (hs:aN G K (L) w) (y:cE K a1 c2 b):
  Calls prog 107 ([zS a1 b.length c2]:List Value).toArray w (eR fun v w'=>∃ m z J,v=zS z R.length J/\Hp.le K m/\aN G m (bB 203 m z J R::L) w'):=by
 refine aQ func107 rfl (by kernel_rfl) (by show (1:Nat)<=21;decide) ?_;unfold aCx at hm
 refine aL (aD (v:=zS none 0 0) (aG (aL (eL (Kt:=K) (xs:=([]:List (List bP))) (cs:=[]) (vs:=[]) jR aPJ rfl rfl hs rfl (by kernel_rfl) rfl rfl rfl trivial (fun V w5 (d0:aN G K (bB 203 K V 0 ([]:List (List bP))::L) w5)=>(aD (v:=zS V ([]:List (List bP)).length 0) (aG (aO (aL (aD (v:=i64 0) (aG (bR [] (fun f w=>∃ n o Z a0,Hp.le K n/\aAv o=some R/\f 3=zS Z o.length a0/\aN G n (bB 203 n Z a0 o::L) w) cA ?_))))))))))))
 obtain ⟨d1,b1,ho⟩:=aC hm
 refine dN [0] b1 (fun c p f w=>∃ a d e,Hp.le K a/\f 3=zS d c.length e/\f 4=i64 p/\aN G a (bB 203 a d e c::L) w) cA ?_
 ·rintro c p d2 f d3 hm hr ⟨a,d,e,k,b2,q,a2⟩
  unfold aAw at hm
  refine aO (aL (bG q (aI (v:=zS a1 b.length c2) (aA (bQ (len:=b.length) jR rfl) (aA (cM rfl rfl) (aG ?_))))))
  rcases aH hm with ⟨a3,hm⟩|⟨a3,hm⟩
  ·refine aM a3 rfl (aW (aB (aO (bZ (aV (bG b2 (aI (v:=zS a1 b.length c2) (bG q ?_))))))));obtain ⟨b3,a5,hm⟩:=aC hm
   refine aA (cQ jR rfl (y.mono k) rfl rfl rfl a5) ?_;obtain ⟨d4,b4,b5⟩:=cE.el (sz:=1) rfl y a5
   obtain ⟨b6,b7,rfl,b8⟩:=b5
   refine aA (bX (t:=0) aFm a2 (b4.mono k) rfl rfl) ?_;obtain ⟨g,b9,hm⟩:=aC hm
   refine aT (vs:=[zS b6 b3.length b7]) call151 rfl (aNU b9 a2 (b8.mono k)) ?_
   rintro _ c0 ⟨h,j,rfl,c1⟩
   have c3:aN G a (rows [242] ([(h,j)]:List (Dp.Hd (List bP))) [g]::bB 203 a d e c::L) c0:=aN.rowsOne c1
   refine eL (Kt:=K) (xs:=bT ([(h,j)]:List (Dp.Hd (List bP))) ([g]:List (List bP))) (cs:=[zS h g.length j]) (vs:=[(0,zS h g.length j)]) jR aPJ rfl rfl c3 rfl (by kernel_rfl) rfl rfl rfl ⟨rfl,trivial⟩ ?_
   intro c4 a6 (c5:aN G a (bB 203 K c4 1 (bT ([(h,j)]:List (Dp.Hd (List bP))) ([g]:List (List bP)))::rows [242] ([(h,j)]:List (Dp.Hd (List bP))) ([g]:List (List bP))::bB 203 a d e c::L) a6)
   obtain ⟨l,a7,c6,_,r,_⟩:=aN.lendD' (i:=0) c5 rfl rfl rfl
   replace r:aN G l (bB 203 a d e c::L) a6:=r
   obtain ⟨a8,c7,hm⟩:=aC hm
   exact aDT (i:=0) jR underlying160 aPJ rfl rfl r rfl a7 c6 c7 rfl rfl rfl rfl (fun u x c8 (c9:aN G l (bB 203 l u x a8::L) c8)=>(aD (v:=zS u a8.length x) (cC (bM (aB (aV (bG q (aA (cD rfl rfl) (aD (v:=i64 (wr (p+1))) (aG ⟨_,(zI hm).symm,aU,l,u,x,(zL k a7),rfl,rfl,c9⟩))))))))))
  ·exact cA
theorem aJT {j R:(List Part)} (hm:aAx j=some R) (hs:aN G K (L) w) (x:cE K a1 c2 j):
  Calls prog 71 ([zS a1 j.length c2]:List Value).toArray w (eR fun v w'=>∃ y a5 a6,v=zS a5 R.length a6/\Hp.le K y/\aN G y (bB 162 y a5 a6 R::L) w'):=by
 refine aQ func71 rfl (by kernel_rfl) (by show (1:Nat)<=29;decide) ?_;unfold aAx at hm
 refine aL (aD (v:=zS none 0 0) (aG (aL (eL (Kt:=K) (xs:=([]:List Part)) (cs:=[]) (vs:=[]) jV aPK rfl rfl hs rfl (by kernel_rfl) rfl rfl rfl trivial (fun a4 w5 (d7:aN G K (bB 162 K a4 0 ([]:List Part)::L) w5)=>(aD (v:=zS a4 ([]:List Part).length 0) (aG (aO (aL (aD (v:=i64 0) (aG (bR [] (fun f w=>∃ z J a8 a9,Hp.le K z/\xQ J=some R/\f 3=zS a8 J.length a9/\aN G z (bB 162 z a8 a9 J::L) w) cA ?_))))))))))))
 obtain ⟨d8,c1,ho⟩:=aC hm
 refine dN [0] c1 (fun k r f w=>∃ e l m,Hp.le K e/\f 3=zS l k.length m/\f 4=i64 r/\aN G e (bB 162 e l m k::L) w) cA ?_
 ·rintro k r d9 f e0 hm hr ⟨e,l,m,n,c3,u,b0⟩
  unfold xR at hm
  refine aO (aL (bG u (aI (v:=zS a1 j.length c2) (aA (bQ (len:=j.length) jV rfl) (aA (cM rfl rfl) (aG ?_))))))
  rcases aH hm with ⟨b1,hm⟩|⟨b1,hm⟩
  ·refine aM b1 rfl (aW (aB (aO (bZ (aL (aI (v:=zS a1 j.length c2) (bG u ?_)))))));obtain ⟨a,V,hm⟩:=aC hm
   refine aA (cQ jV rfl (x.mono n) rfl rfl rfl V) ?_;obtain ⟨e1,Z,c4⟩:=cE.el (sz:=4) rfl x V
   obtain ⟨o,p,rfl,c5⟩:=c4
   refine aA (eK (t:=0) (vs:=[i64 a.Kind,i64 a.Number,str a.Name,zS o a.Arguments.length p]) tG b0 (Z.mono n) rfl rfl rfl) (cR (vs:=[i64 0,i64 0,str ([]:bK),zS none 0 0]) zeroValue162 b0 rfl (fun q e2 c6=>(cO (i:=0) (ns:=[i64 a.Kind,i64 a.Number,str a.Name,zS o a.Arguments.length p]) (us:=[i64 a.Kind,i64 a.Number,str a.Name,zS o a.Arguments.length p]) sizeOf162 c6 rfl rfl rfl rfl rfl (dU rfl) rfl rfl (fun c7 (b2:aN G e (box q 162 [i64 a.Kind,i64 a.Number,str a.Name,zS o a.Arguments.length p]::bB 162 e l m k::L) c7)=>(aG (aL (aI (v:=zS a1 j.length c2) (bG u (aA (cQ jV rfl (x.mono n) rfl rfl rfl V) (aA (cI (k':=r.toNat * 4+3) jC rfl (Z.mono n) rfl) (aA (bX (t:=3) pQ b2 (Z.mono n) rfl rfl) ?_)))))))))))
   obtain ⟨b,c8,hm⟩:=aC hm
   refine aT (vs:=[zS o a.Arguments.length p]) call107 rfl (aKH c8 b2 (c5.mono n)) ?_
   rintro _ e3 ⟨b3,c,d,rfl,b4,c9⟩
   refine aA (bA (t':=3) jC rfl rfl) (cO (i:=1) (ns:=[zS c b.length d]) (us:=[i64 a.Kind,i64 a.Number,str a.Name,zS c b.length d]) sizeOf160 c9 rfl rfl rfl rfl rfl (dU rfl) rfl rfl (fun b5 (b6:aN G b3 (bB 203 b3 c d b::box q 162 [i64 a.Kind,i64 a.Number,str a.Name,zS c b.length d]::bB 162 e l m k::L) b5)=>(aG (aV (bG c3 (aA (eH (us:=[i64 a.Kind,i64 a.Number,str a.Name,zS c b.length d]) tG b6 (i:=1) rfl rfl rfl rfl) ?_))))))
   obtain ⟨g,b7,d0,a0⟩:=aN.giveSp b6 (zR _) .head
   replace a0:aN G g (box q 162 [i64 a.Kind,i64 a.Number,str a.Name,zS c b.length d]::bB 162 e l m k::L) b5:=a0
   refine eL (Kt:=g) (xs:=([⟨a.Kind,a.Number,a.Name,b⟩]:List Part)) (cs:=[i64 a.Kind,i64 a.Number,str a.Name,zS c b.length d]) (vs:=[(0,zA #[i64 a.Kind,i64 a.Number,str a.Name,zS c b.length d])]) jV aPK rfl rfl a0 rfl (by kernel_rfl) rfl rfl rfl ⟨⟨c,d,rfl,d0⟩,trivial⟩ (fun d1 d2 (d3:aN G g (bB 162 g d1 1 ([⟨a.Kind,a.Number,a.Name,b⟩]:List Part)::box q 162 [i64 a.Kind,i64 a.Number,str a.Name,zS c b.length d]::bB 162 e l m k::L) d2)=>?_)
   obtain ⟨b8,d4,hm⟩:=aC hm
   exact aBJ (i:=1) g jV underlying87 aPK rfl rfl d3 rfl (zL b4 b7) (zR _) d4 rfl rfl rfl rfl (fun _ _ _ h=>El.one h) (fun a2 a3 d5 (d6:aN G g (box q 162 [i64 a.Kind,i64 a.Number,str a.Name,zS c b.length d]::bB 162 g a2 a3 b8::L) d5)=>(aD (v:=zS a2 b8.length a3) (cC (bM (aB (aV (bG u (aA (cD rfl rfl) (aD (v:=i64 (wr (r+1))) (aG ⟨_,(zI hm).symm,aU,g,a2,a3,(zL (zL n b4) b7),rfl,rfl,(aN.arr 1 [] d6 rfl)⟩))))))))))
  ·exact cA
theorem aCm {a R:(List Int)} (hm:tM a=some R) (d:aN G K (L) w) (e:cE K a1 c2 a):
  Calls prog 72 ([zS a1 a.length c2]:List Value).toArray w (eR fun v w'=>∃ b c,v=zS b R.length c/\aN G K (bB 2 K b c R::L) w'):=by
 exact cA
theorem aNV {s_:cP} {Z:Nat} {R:cP} (hm:aHx s_=some R) (hs:aN G K (L) w) (u:iR K a1 Z [zS a4 s_.Definitions.length c5,zS a7 s_.Components.length c8,zS a10 s_.Meetings.length c11,zS a13 s_.Allowed.length c14,zS a16 s_.Hidden.length c17]) (h6:cE K a4 c5 s_.Definitions) (h9:cE K a7 c8 s_.Components) (i8:cE K a10 c11 s_.Meetings) (i9:cE K a13 c14 s_.Allowed) (j0:cE K a16 c17 s_.Hidden):
  Calls prog 43 ([eJ a1 Z]:List Value).toArray w (eR fun v w'=>∃ K' g0 g1 g2 g3 g4 g5 g6 g7 g8 g9,v=zA #[zS g0 R.Definitions.length g1,zS g2 R.Components.length g3,zS g4 R.Meetings.length g5,zS g6 R.Allowed.length g7,zS g8 R.Hidden.length g9]/\Hp.le K K'/\aN G K' (bB 89 K' g0 g1 R.Definitions::bB 91 K' g2 g3 R.Components::bB 93 K g4 g5 R.Meetings::bB 9 K g6 g7 R.Allowed::bB 9 K g8 g9 R.Hidden::L) w'):=by
 let l:=[zS none 0 0,zS none 0 0,zS none 0 0,zS none 0 0,zS none 0 0]
 refine aQ func43 rfl (by kernel_rfl) (by show (1:Nat)<=97;decide) ?_;unfold aHx at hm
 refine aL (cR (vs:=l) zeroValue38 hs rfl (fun m p6 j1=>(aG (aL (eL (Kt:=K) (xs:=([]:List Definition)) (cs:=[]) (vs:=[]) iW ez_89 rfl rfl j1 rfl (by kernel_rfl) rfl rfl rfl trivial (fun c7 j2 (j3:aN G K (bB 89 K c7 0 ([]:List Definition)::box m 38 l::L) j2)=>(eL (Kt:=K) (xs:=([]:List bL)) (cs:=[]) (vs:=[]) oJ ez_91 rfl rfl j3 rfl (by kernel_rfl) rfl rfl rfl trivial (fun y j4 (j5:aN G K (bB 91 K y 0 ([]:List bL)::bB 89 K c7 0 ([]:List Definition)::box m 38 l::L) j4)=>(aA (iA (vs:=[(0,zS c7 ([]:List Definition).length 0),(1,zS y ([]:List bL).length 0)]) (cs:=[zS c7 ([]:List Definition).length 0,zS y ([]:List bL).length 0,zS none 0 0,zS none 0 0,zS none 0 0]) bs_38 rfl (by kernel_rfl)) (cR (vs:=l) zeroValue38 j5 rfl (fun p p7 j6=>(cO (i:=0) (ns:=[zS c7 ([]:List Definition).length 0,zS y ([]:List bL).length 0,zS none 0 0,zS none 0 0,zS none 0 0]) (us:=[zS c7 ([]:List Definition).length 0,zS y ([]:List bL).length 0,zS none 0 0,zS none 0 0,zS none 0 0]) sizeOf38 j6 rfl rfl rfl rfl rfl (dU rfl) rfl rfl (fun j7 (p8:aN G K (box p 38 [zS c7 ([]:List Definition).length 0,zS y ([]:List bL).length 0,zS none 0 0,zS none 0 0,zS none 0 0]::bB 91 K y 0 ([]:List bL)::bB 89 K c7 0 ([]:List Definition)::box m 38 l::L) j7)=>(aG (aO (aL (aD (v:=i64 0) (aG (bR [0,2,3] (fun f w=>∃ x a b c,Hp.le K x/\aCz s_ a=some R/\aN G x (bB 89 x b c a::box p 38 [zS b a.length c,zS y ([]:List bL).length 0,zS none 0 0,zS none 0 0,zS none 0 0]::bB 91 K y 0 ([]:List bL)::box m 38 l::L) w) ?_ ?_)))))))))))))))))))
 ·rintro f j8 ⟨x,a,b,c,k,hm,j9⟩
  unfold aCz at hm
  refine aB (aO (aL (aD (v:=i64 0) (aG (bR [0,2,3] (fun f w=>∃ r d e g,Hp.le x r/\aCy s_ a d=some R/\aN G r (bB 91 r e g d::bB 89 x b c a::box p 38 [zS b a.length c,zS e d.length g,zS none 0 0,zS none 0 0,zS none 0 0]::box m 38 l::L) w) ?_ ?_)))))
  ·rintro f p9 ⟨r,d,e,g,a2,hm,k0⟩
   unfold aCy at hm
   refine aB (aL (eL (Kt:=K) (xs:=([]:List bV)) (cs:=[]) (vs:=[]) lV aRU rfl rfl k0 rfl (by kernel_rfl) rfl rfl rfl trivial (fun k1 k3 (h0:aN G r (bB 93 K k1 0 ([]:List bV)::bB 91 r e g d::bB 89 x b c a::box p 38 [zS b a.length c,zS e d.length g,zS none 0 0,zS none 0 0,zS none 0 0]::box m 38 l::L) k3)=>(aI (v:=eJ a1 Z) (aA (dG rfl (u.mono (zL k a2))) (aA (cI (k':=Z+2) aBN rfl (u.mono (zL k a2)) rfl) (aA (bX (t:=2) aFy h0 (u.mono (zL k a2)) rfl rfl) ?_)))))))
   obtain ⟨q,k4,hm⟩:=aC hm
   refine aDT (i:=0) lV underlying30 aRU rfl rfl h0 rfl (zL k a2) (i8.mono (zL k a2)) k4 rfl rfl rfl rfl (fun n o k5 (k6:aN G r (bB 93 K n o q::bB 91 r e g d::bB 89 x b c a::box p 38 [zS b a.length c,zS e d.length g,zS none 0 0,zS none 0 0,zS none 0 0]::box m 38 l::L) k5)=>(aA (bA (t':=2) aBN rfl rfl) (cO (i:=3) (ns:=[zS n q.length o]) (us:=[zS b a.length c,zS e d.length g,zS n q.length o,zS none 0 0,zS none 0 0]) sizeOf30 k6 rfl rfl rfl rfl rfl (dU rfl) rfl rfl (fun k7 (k8:aN G r (bB 93 K n o q::bB 91 r e g d::bB 89 x b c a::box p 38 [zS b a.length c,zS e d.length g,zS n q.length o,zS none 0 0,zS none 0 0]::box m 38 l::L) k7)=>(aG (aL (eL (Kt:=K) (xs:=([]:List bK)) (cs:=[]) (vs:=[]) dL aCp rfl rfl k8 rfl (by kernel_rfl) rfl rfl rfl trivial (fun k9 l0 (h1:aN G r (bB 9 K k9 0 ([]:List bK)::bB 93 K n o q::bB 91 r e g d::bB 89 x b c a::box p 38 [zS b a.length c,zS e d.length g,zS n q.length o,zS none 0 0,zS none 0 0]::box m 38 l::L) l0)=>(aI (v:=eJ a1 Z) (aA (dG rfl (u.mono (zL k a2))) (aA (cI (k':=Z+3) aBO rfl (u.mono (zL k a2)) rfl) (aA (bX (t:=3) jG h1 (u.mono (zL k a2)) rfl rfl) ?_))))))))))))
   obtain ⟨V,l1,hm⟩:=aC hm
   refine aDT (i:=0) dL underlying25 aCp rfl rfl h1 rfl (zL k a2) (i9.mono (zL k a2)) l1 rfl rfl rfl rfl (fun z J l2 (l3:aN G r (bB 9 K z J V::bB 93 K n o q::bB 91 r e g d::bB 89 x b c a::box p 38 [zS b a.length c,zS e d.length g,zS n q.length o,zS none 0 0,zS none 0 0]::box m 38 l::L) l2)=>(aA (bA (t':=3) aBO rfl rfl) (cO (i:=4) (ns:=[zS z V.length J]) (us:=[zS b a.length c,zS e d.length g,zS n q.length o,zS z V.length J,zS none 0 0]) sizeOf25 l3 rfl rfl rfl rfl rfl (dU rfl) rfl rfl (fun l4 (l5:aN G r (bB 9 K z J V::bB 93 K n o q::bB 91 r e g d::bB 89 x b c a::box p 38 [zS b a.length c,zS e d.length g,zS n q.length o,zS z V.length J,zS none 0 0]::box m 38 l::L) l4)=>(aG (aL (eL (Kt:=K) (xs:=([]:List bK)) (cs:=[]) (vs:=[]) dL aCp rfl rfl l5 rfl (by kernel_rfl) rfl rfl rfl trivial (fun l6 l7 (h2:aN G r (bB 9 K l6 0 ([]:List bK)::bB 9 K z J V::bB 93 K n o q::bB 91 r e g d::bB 89 x b c a::box p 38 [zS b a.length c,zS e d.length g,zS n q.length o,zS z V.length J,zS none 0 0]::box m 38 l::L) l7)=>(aI (v:=eJ a1 Z) (aA (dG rfl (u.mono (zL k a2))) (aA (cI (k':=Z+4) aBP rfl (u.mono (zL k a2)) rfl) (aA (bX (t:=4) jG h2 (u.mono (zL k a2)) rfl rfl) ?_))))))))))))
   obtain ⟨a9,l8,hm⟩:=aC hm
   refine aDT (i:=0) dL underlying25 aCp rfl rfl h2 rfl (zL k a2) (j0.mono (zL k a2)) l8 rfl rfl rfl rfl (fun a5 a6 l9 (m0:aN G r (bB 9 K a5 a6 a9::bB 9 K z J V::bB 93 K n o q::bB 91 r e g d::bB 89 x b c a::box p 38 [zS b a.length c,zS e d.length g,zS n q.length o,zS z V.length J,zS none 0 0]::box m 38 l::L) l9)=>(aA (bA (t':=4) aBP rfl rfl) (cO (i:=5) (ns:=[zS a5 a9.length a6]) (us:=[zS b a.length c,zS e d.length g,zS n q.length o,zS z V.length J,zS a5 a9.length a6]) sizeOf25 m0 rfl rfl rfl rfl rfl (dU rfl) rfl rfl (fun m1 (h4:aN G r (bB 9 K a5 a6 a9::bB 9 K z J V::bB 93 K n o q::bB 91 r e g d::bB 89 x b c a::box p 38 [zS b a.length c,zS e d.length g,zS n q.length o,zS z V.length J,zS a5 a9.length a6]::box m 38 l::L) m1)=>(aG (aL (aA (eH (us:=[zS b a.length c,zS e d.length g,zS n q.length o,zS z V.length J,zS a5 a9.length a6]) aHp h4 (i:=5) rfl rfl rfl rfl) (cO (i:=6) (ns:=[zS b a.length c,zS e d.length g,zS n q.length o,zS z V.length J,zS a5 a9.length a6]) (us:=[zS b a.length c,zS e d.length g,zS n q.length o,zS z V.length J,zS a5 a9.length a6]) sizeOf38 h4 rfl rfl rfl rfl rfl (dU rfl) rfl rfl (fun h5 (m2:aN G r (bB 9 K a5 a6 a9::bB 9 K z J V::bB 93 K n o q::bB 91 r e g d::bB 89 x b c a::box p 38 [zS b a.length c,zS e d.length g,zS n q.length o,zS z V.length J,zS a5 a9.length a6]::box m 38 [zS b a.length c,zS e d.length g,zS n q.length o,zS z V.length J,zS a5 a9.length a6]::L) h5)=>(aG ?_))))))))))
   have h7:aN G r (bB 9 K a5 a6 a9::bB 9 K z J V::bB 93 K n o q::bB 91 r e g d::bB 89 r b c a::box p 38 [zS b a.length c,zS e d.length g,zS n q.length o,zS z V.length J,zS a5 a9.length a6]::box m 38 [zS b a.length c,zS e d.length g,zS n q.length o,zS z V.length J,zS a5 a9.length a6]::L) h5:=aN.weak (i:=4) m2 rfl (fun _ h=>bB.mono a2 h)
   obtain rfl:=zI hm
   exact aX (aBK results43 (iN (vs:=[zS b a.length c,zS e d.length g,zS n q.length o,zS z V.length J,zS a5 a9.length a6]) rfl aHp h7 (i:=6) rfl rfl rfl) ⟨r,b,c,e,g,n,o,z,J,a5,a6,rfl,(zL k a2),(aN.arr 7 [4,3,2,1,0] h7 rfl)⟩)
  have q0:aN G x (bB 89 x b c a::box p 38 [zS b a.length c,zS y ([]:List bL).length 0,zS none 0 0,zS none 0 0,zS none 0 0]::bB 91 x y 0 ([]:List bL)::box m 38 l::L) j8:=aN.weak (i:=2) j9 rfl (fun _ h=>bB.mono k h)
  obtain ⟨q1,m4,ho⟩:=aC hm
  refine dN [0,2,3] m4 (fun b2 e2 f w=>∃ c2 b3 b4,Hp.le x c2/\f 6=i64 e2/\aN G c2 (bB 89 x b c a::box p 38 [zS b a.length c,zS b3 b2.length b4,zS none 0 0,zS none 0 0,zS none 0 0]::bB 91 c2 b3 b4 b2::box m 38 l::L) w) cA ?_
  ·rintro b2 e2 q2 f q3 hm hr ⟨c2,b3,b4,a3,e3,e4⟩
   unfold aEX at hm
   refine aO (aL (bG e3 (aI (v:=eJ a1 Z) (aA (dG rfl (u.mono (zL k a3))) (aA (cI (k':=Z+1) mD rfl (u.mono (zL k a3)) rfl) (aA (bX (t:=1) aBn e4 (u.mono (zL k a3)) rfl rfl) (aA (bQ (len:=s_.Components.length) oJ rfl) (aA (cM rfl rfl) (aG ?_)))))))))
   rcases aH hm with ⟨h8,hm⟩|⟨h8,hm⟩
   ·refine aM h8 rfl (aW (aB (aO (bZ (aL (aI (v:=eJ a1 Z) (aA (dG rfl (u.mono (zL k a3))) (aA (cI (k':=Z+1) mD rfl (u.mono (zL k a3)) rfl) (aA (bX (t:=1) aBn e4 (u.mono (zL k a3)) rfl rfl) (bG e3 ?_))))))))));obtain ⟨a0,f0,hm⟩:=aC hm
    refine aA (cQ oJ rfl (h9.mono (zL k a3)) rfl rfl rfl f0) ?_;obtain ⟨q4,f1,m5⟩:=cE.el (sz:=2) rfl h9 f0
    obtain ⟨d5,d6,rfl,m6⟩:=m5
    refine aA (eK (t:=0) (vs:=[i64 a0.Definition,zS d5 a0.Values.length d6]) aHo e4 (f1.mono (zL k a3)) rfl rfl rfl) (cR (vs:=[i64 0,zS none 0 0]) zeroValue91 e4 rfl (fun c9 q5 m7=>(cO (i:=0) (ns:=[i64 a0.Definition,zS d5 a0.Values.length d6]) (us:=[i64 a0.Definition,zS d5 a0.Values.length d6]) sizeOf91 m7 rfl rfl rfl rfl rfl (dU rfl) rfl rfl (fun m8 (f2:aN G c2 (box c9 91 [i64 a0.Definition,zS d5 a0.Values.length d6]::bB 89 x b c a::box p 38 [zS b a.length c,zS b3 b2.length b4,zS none 0 0,zS none 0 0,zS none 0 0]::bB 91 c2 b3 b4 b2::box m 38 l::L) m8)=>(aG (aL (aI (v:=eJ a1 Z) (aA (dG rfl (u.mono (zL k a3))) (aA (cI (k':=Z+1) mD rfl (u.mono (zL k a3)) rfl) (aA (bX (t:=1) aBn f2 (u.mono (zL k a3)) rfl rfl) (bG e3 (aA (cQ oJ rfl (h9.mono (zL k a3)) rfl rfl rfl f0) (aA (cI (k':=e2.toNat * 2+1) xM rfl (f1.mono (zL k a3)) rfl) (aA (bX (t:=1) aCq f2 (f1.mono (zL k a3)) rfl rfl) ?_))))))))))))))
    obtain ⟨b0,m9,hm⟩:=aC hm
    refine aT (vs:=[zS d5 a0.Values.length d6]) call72 rfl (aCm m9 f2 (m6.mono (zL k a3))) ?_
    rintro _ q6 ⟨b5,b6,rfl,n0⟩
    refine aA (bA (t':=1) xM rfl rfl) (cO (i:=1) (ns:=[zS b5 b0.length b6]) (us:=[i64 a0.Definition,zS b5 b0.length b6]) sizeOf78 n0 rfl rfl rfl rfl rfl (dU rfl) rfl rfl (fun i0 (f3:aN G c2 (bB 2 K b5 b6 b0::box c9 91 [i64 a0.Definition,zS b5 b0.length b6]::bB 89 x b c a::box p 38 [zS b a.length c,zS b3 b2.length b4,zS none 0 0,zS none 0 0,zS none 0 0]::bB 91 c2 b3 b4 b2::box m 38 l::L) i0)=>(aG (aV (aA (bA (t':=1) mD rfl rfl) (aA (bO aBn f3 (i:=3) rfl rfl rfl) (aA (eH (us:=[i64 a0.Definition,zS b5 b0.length b6]) aHo f3 (i:=1) rfl rfl rfl rfl) ?_)))))))
    obtain ⟨c3,i1,n1,f4⟩:=aN.giveSp f3 (zL k a3) .head
    replace f4:aN G c3 (box c9 91 [i64 a0.Definition,zS b5 b0.length b6]::bB 89 x b c a::box p 38 [zS b a.length c,zS b3 b2.length b4,zS none 0 0,zS none 0 0,zS none 0 0]::bB 91 c2 b3 b4 b2::box m 38 l::L) i0:=f4
    refine eL (Kt:=c3) (xs:=([⟨a0.Definition,b0⟩]:List bL)) (cs:=[i64 a0.Definition,zS b5 b0.length b6]) (vs:=[(0,zA #[i64 a0.Definition,zS b5 b0.length b6])]) oJ ez_91 rfl rfl f4 rfl (by kernel_rfl) rfl rfl rfl ⟨⟨b5,b6,rfl,n1⟩,trivial⟩ (fun n2 n3 (n4:aN G c3 (bB 91 c3 n2 1 ([⟨a0.Definition,b0⟩]:List bL)::box c9 91 [i64 a0.Definition,zS b5 b0.length b6]::bB 89 x b c a::box p 38 [zS b a.length c,zS b3 b2.length b4,zS none 0 0,zS none 0 0,zS none 0 0]::bB 91 c2 b3 b4 b2::box m 38 l::L) n3)=>?_)
    obtain ⟨d7,n5,hm⟩:=aC hm
    exact aBJ (i:=3) c3 oJ underlying36 ez_91 rfl rfl n4 rfl i1 (zR _) n5 rfl rfl rfl rfl (fun _ _ _ h=>El.one h) (fun d0 d1 n6 (n7:aN G c3 (box c9 91 [i64 a0.Definition,zS b5 b0.length b6]::bB 89 x b c a::box p 38 [zS b a.length c,zS b3 b2.length b4,zS none 0 0,zS none 0 0,zS none 0 0]::bB 91 c3 d0 d1 d7::box m 38 l::L) n6)=>(aA (bA (t':=1) mD rfl rfl) (cO (i:=2) (ns:=[zS d0 d7.length d1]) (us:=[zS b a.length c,zS d0 d7.length d1,zS none 0 0,zS none 0 0,zS none 0 0]) sizeOf36 n7 rfl rfl rfl rfl rfl (dU rfl) rfl rfl (fun n8 (n9:aN G c3 (box c9 91 [i64 a0.Definition,zS b5 b0.length b6]::bB 89 x b c a::box p 38 [zS b a.length c,zS d0 d7.length d1,zS none 0 0,zS none 0 0,zS none 0 0]::bB 91 c3 d0 d1 d7::box m 38 l::L) n8)=>(cC (bM (aB (aV (bG e3 (aA (cD rfl rfl) (aD (v:=i64 (wr (e2+1))) (aG ⟨_,(zI hm).symm,aU,c3,d0,d1,(zL a3 i1),rfl,(aN.arr 1 [] n9 rfl)⟩))))))))))))
   ·exact cA
 obtain ⟨q7,o0,ho⟩:=aC hm
 refine dN [0,2,3] o0 (fun b7 e5 f w=>∃ c6 b8 b9,Hp.le K c6/\f 4=i64 e5/\aN G c6 (box p 38 [zS b8 b7.length b9,zS y ([]:List bL).length 0,zS none 0 0,zS none 0 0,zS none 0 0]::bB 91 K y 0 ([]:List bL)::bB 89 c6 b8 b9 b7::box m 38 l::L) w) cA ?_
 ·rintro b7 e5 q8 f q9 hm hr ⟨c6,b8,b9,a8,e6,e7⟩
  unfold aEY at hm
  refine aO (aL (bG e6 (aI (v:=eJ a1 Z) (aA (dG rfl (u.mono a8)) (aA (cI (k':=Z+0) pL rfl (u.mono a8) rfl) (aA (bX (t:=0) aDY e7 (u.mono a8) rfl rfl) (aA (bQ (len:=s_.Definitions.length) iW rfl) (aA (cM rfl rfl) (aG ?_)))))))))
  rcases aH hm with ⟨i2,hm⟩|⟨i2,hm⟩
  ·refine aM i2 rfl (aW (aB (aO (bZ (aL (aI (v:=eJ a1 Z) (aA (dG rfl (u.mono a8)) (aA (cI (k':=Z+0) pL rfl (u.mono a8) rfl) (aA (bX (t:=0) aDY e7 (u.mono a8) rfl rfl) (bG e6 ?_))))))))));obtain ⟨j,f5,hm⟩:=aC hm
   refine aA (cQ iW rfl (h6.mono a8) rfl rfl rfl f5) ?_;obtain ⟨r0,f6,o1⟩:=cE.el (sz:=3) rfl h6 f5
   obtain ⟨d8,d9,rfl,o2⟩:=o1
   refine aA (eK (t:=0) (vs:=[str j.Name,i64 j.Parameters,zS d8 j.Body.length d9]) aES e7 (f6.mono a8) rfl rfl rfl) (cR (vs:=[str ([]:bK),i64 0,zS none 0 0]) zeroValue89 e7 rfl (fun d2 r1 o3=>(cO (i:=0) (ns:=[str j.Name,i64 j.Parameters,zS d8 j.Body.length d9]) (us:=[str j.Name,i64 j.Parameters,zS d8 j.Body.length d9]) sizeOf89 o3 rfl rfl rfl rfl rfl (dU rfl) rfl rfl (fun o4 (f7:aN G c6 (box d2 89 [str j.Name,i64 j.Parameters,zS d8 j.Body.length d9]::box p 38 [zS b8 b7.length b9,zS y ([]:List bL).length 0,zS none 0 0,zS none 0 0,zS none 0 0]::bB 91 K y 0 ([]:List bL)::bB 89 c6 b8 b9 b7::box m 38 l::L) o4)=>(aG (aL (aI (v:=eJ a1 Z) (aA (dG rfl (u.mono a8)) (aA (cI (k':=Z+0) pL rfl (u.mono a8) rfl) (aA (bX (t:=0) aDY f7 (u.mono a8) rfl rfl) (bG e6 (aA (cQ iW rfl (h6.mono a8) rfl rfl rfl f5) (aA (cI (k':=e5.toNat * 3+2) kT rfl (f6.mono a8) rfl) (aA (bX (t:=2) yQ f7 (f6.mono a8) rfl rfl) ?_))))))))))))))
   obtain ⟨b1,o5,hm⟩:=aC hm
   refine aT (vs:=[zS d8 j.Body.length d9]) call71 rfl (aJT o5 f7 (o2.mono a8)) ?_
   rintro _ r2 ⟨i3,c0,c1,rfl,i4,o6⟩
   refine aA (bA (t':=2) kT rfl rfl) (cO (i:=1) (ns:=[zS c0 b1.length c1]) (us:=[str j.Name,i64 j.Parameters,zS c0 b1.length c1]) sizeOf87 o6 rfl rfl rfl rfl rfl (dU rfl) rfl rfl (fun i5 (f8:aN G i3 (bB 162 i3 c0 c1 b1::box d2 89 [str j.Name,i64 j.Parameters,zS c0 b1.length c1]::box p 38 [zS b8 b7.length b9,zS y ([]:List bL).length 0,zS none 0 0,zS none 0 0,zS none 0 0]::bB 91 K y 0 ([]:List bL)::bB 89 c6 b8 b9 b7::box m 38 l::L) i5)=>(aG (aV (aA (bA (t':=0) pL rfl rfl) (aA (bO aDY f8 (i:=2) rfl rfl rfl) (aA (eH (us:=[str j.Name,i64 j.Parameters,zS c0 b1.length c1]) aES f8 (i:=1) rfl rfl rfl rfl) ?_)))))))
   obtain ⟨c4,i6,o7,f9⟩:=aN.giveSp f8 (zR _) .head
   replace f9:aN G c4 (box d2 89 [str j.Name,i64 j.Parameters,zS c0 b1.length c1]::box p 38 [zS b8 b7.length b9,zS y ([]:List bL).length 0,zS none 0 0,zS none 0 0,zS none 0 0]::bB 91 K y 0 ([]:List bL)::bB 89 c6 b8 b9 b7::box m 38 l::L) i5:=f9
   refine eL (Kt:=c4) (xs:=([⟨j.Name,j.Parameters,b1⟩]:List Definition)) (cs:=[str j.Name,i64 j.Parameters,zS c0 b1.length c1]) (vs:=[(0,zA #[str j.Name,i64 j.Parameters,zS c0 b1.length c1])]) iW ez_89 rfl rfl f9 rfl (by kernel_rfl) rfl rfl rfl ⟨⟨c0,c1,rfl,o7⟩,trivial⟩ (fun o8 o9 (p0:aN G c4 (bB 89 c4 o8 1 ([⟨j.Name,j.Parameters,b1⟩]:List Definition)::box d2 89 [str j.Name,i64 j.Parameters,zS c0 b1.length c1]::box p 38 [zS b8 b7.length b9,zS y ([]:List bL).length 0,zS none 0 0,zS none 0 0,zS none 0 0]::bB 91 K y 0 ([]:List bL)::bB 89 c6 b8 b9 b7::box m 38 l::L) o9)=>?_)
   obtain ⟨e0,p1,hm⟩:=aC hm
   exact aBJ (i:=3) c4 iW underlying35 ez_89 rfl rfl p0 rfl (zL i4 i6) (zR _) p1 rfl rfl rfl rfl (fun _ _ _ h=>El.one h) (fun d3 d4 p2 (p3:aN G c4 (box d2 89 [str j.Name,i64 j.Parameters,zS c0 b1.length c1]::box p 38 [zS b8 b7.length b9,zS y ([]:List bL).length 0,zS none 0 0,zS none 0 0,zS none 0 0]::bB 91 K y 0 ([]:List bL)::bB 89 c4 d3 d4 e0::box m 38 l::L) p2)=>(aA (bA (t':=0) pL rfl rfl) (cO (i:=1) (ns:=[zS d3 e0.length d4]) (us:=[zS d3 e0.length d4,zS y ([]:List bL).length 0,zS none 0 0,zS none 0 0,zS none 0 0]) sizeOf35 p3 rfl rfl rfl rfl rfl (dU rfl) rfl rfl (fun p4 (p5:aN G c4 (box d2 89 [str j.Name,i64 j.Parameters,zS c0 b1.length c1]::box p 38 [zS d3 e0.length d4,zS y ([]:List bL).length 0,zS none 0 0,zS none 0 0,zS none 0 0]::bB 91 K y 0 ([]:List bL)::bB 89 c4 d3 d4 e0::box m 38 l::L) p4)=>(cC (bM (aB (aV (bG e6 (aA (cD rfl rfl) (aD (v:=i64 (wr (e5+1))) (aG ⟨_,(zI hm).symm,aU,c4,d3,d4,(zL (zL a8 i4) i6),rfl,(aN.arr 1 [] p5 rfl)⟩))))))))))))
  ·exact cA
theorem aLL {s_:cP} {m:Nat} {R:(List bS)} (hm:aEk s_=some R) (hs:aN G K (L) w) (n:iR K a1 m [zS a4 s_.Definitions.length c5,zS a7 s_.Components.length c8,zS a10 s_.Meetings.length c11,zS a13 s_.Allowed.length c14,zS a16 s_.Hidden.length c17]) (h6:cE K a4 c5 s_.Definitions) (h9:cE K a7 c8 s_.Components) (e1:cE K a10 c11 s_.Meetings) (e2:cE K a13 c14 s_.Allowed) (e3:cE K a16 c17 s_.Hidden):
  Calls prog 73 ([eJ a1 m]:List Value).toArray w (eR fun v w'=>∃ z a8 a9,v=zS a8 R.length a9/\Hp.le K z/\aN G z (bB 100 z a8 a9 R::L) w'):=by
 refine aQ func73 rfl (by kernel_rfl) (by show (1:Nat)<=33;decide) ?_;unfold aEk at hm
 refine aL (aD (v:=zS none 0 0) (aG (aL (eL (Kt:=K) (xs:=([]:List bS)) (cs:=[]) (vs:=[]) sT aFn rfl rfl hs rfl (by kernel_rfl) rfl rfl rfl trivial (fun b0 c2 (e4:aN G K (bB 100 K b0 0 ([]:List bS)::L) c2)=>(aD (v:=zS b0 ([]:List bS).length 0) (aG (aO (aL (aD (v:=i64 0) (aG (bR [] (fun f w=>∃ J V b1 b2,Hp.le K J/\aBX V=some R/\f 3=zS b1 V.length b2/\aN G J (bB 100 J b1 b2 V::L) w) cA ?_))))))))))));obtain ⟨e5,c3,ho⟩:=aC hm
 refine dN [0] c3 (fun j Z f w=>∃ b k l,Hp.le K b/\f 3=zS k j.length l/\f 4=i64 Z/\aN G b (bB 100 b k l j::L) w) cA ?_
 ·rintro j Z e6 f e7 hm hr ⟨b,k,l,c,c4,a0,x⟩
  unfold wM at hm
  refine aO (aL (bG a0 (aI (v:=eJ a1 m) (aA (dG rfl (n.mono c)) (aA (cI (k':=m+1) mD rfl (n.mono c) rfl) (aA (bX (t:=1) aBn x (n.mono c) rfl rfl) (aA (bQ (len:=s_.Components.length) oJ rfl) (aA (cM rfl rfl) (aG ?_)))))))))
  rcases aH hm with ⟨b3,hm⟩|⟨b3,hm⟩
  ·refine aM b3 rfl (aW (aB (aO (bZ (aL (aI (v:=eJ a1 m) (aA (dG rfl (n.mono c)) (aA (cI (k':=m+1) mD rfl (n.mono c) rfl) (aA (bX (t:=1) aBn x (n.mono c) rfl rfl) (bG a0 ?_))))))))));obtain ⟨a,b4,hm⟩:=aC hm
   refine aA (cQ oJ rfl (h9.mono c) rfl rfl rfl b4) ?_;obtain ⟨e8,c6,c7⟩:=cE.el (sz:=2) rfl h9 b4
   obtain ⟨d,e,rfl,c9⟩:=c7
   refine aA (eK (t:=0) (vs:=[i64 a.Definition,zS d a.Values.length e]) aHo x (c6.mono c) rfl rfl rfl) (cR (vs:=[i64 0,zS none 0 0]) zeroValue91 x rfl (fun o e9 d0=>(cO (i:=0) (ns:=[i64 a.Definition,zS d a.Values.length e]) (us:=[i64 a.Definition,zS d a.Values.length e]) sizeOf91 d0 rfl rfl rfl rfl rfl (dU rfl) rfl rfl (fun b5 (d1:aN G b (box o 91 [i64 a.Definition,zS d a.Values.length e]::bB 100 b k l j::L) b5)=>(aG ?_)))))
   have b6:aN G b (box o 91 [i64 a.Definition,zS d a.Values.length e]::bB 100 b k l j::L) b5:=d1
   refine jJ (C:=fun w'=>∃ L',aN G b (box o 91 [i64 a.Definition,zS d a.Values.length e]::L') w') [(0,0),(1,0),(2,0),(3,0),(4,0),(5,1),(6,0),(7,1),(8,1),(9,0)] cB (by kernel_rfl) (fun _ hg=>⟨_,aN.mono b6 hg⟩) (fun f0 d2=>?_)
   have q:=aN.mono b6 d2
   refine dV rfl (fun _ _=>bJ c4) (dV rfl (fun _ _=>bA (t':=0) aBM rfl rfl) (dV rfl (fun _ ⟨_,q⟩=>bO dC q (i:=0) rfl rfl rfl) (dV rfl (fun _ _=>bA (t':=1) xM rfl rfl) (dV rfl (fun _ ⟨_,q⟩=>bO aCq q (i:=0) rfl rfl rfl) (pP rfl ?_)))));obtain ⟨p,d3,hm⟩:=aC hm
   refine aT (vs:=[zS d a.Values.length e]) call72 rfl (aCm d3 q (c9.mono c)) ?_
   rintro _ d4 ⟨r,u,rfl,b7⟩
   refine cC (aB ⟨⟨_,(aN.arr 2 [1,0] b7 rfl)⟩,?_⟩)
   refine dV rfl (fun _ _=>iA (vs:=[(0,i64 a.Definition),(2,zS r p.length u)]) (cs:=[i64 a.Definition,i64 0,zS r p.length u]) aKC rfl (by kernel_rfl)) (pP rfl ?_);obtain ⟨g,y,d5,a2⟩:=aN.giveSp b7 c .head
   replace a2:aN G g (box o 91 [i64 a.Definition,zS d a.Values.length e]::bB 100 b k l j::L) d4:=a2
   refine eL (Kt:=g) (xs:=([⟨a.Definition,0,p⟩]:List bS)) (cs:=[i64 a.Definition,i64 0,zS r p.length u]) (vs:=[(0,zA #[i64 a.Definition,i64 0,zS r p.length u])]) sT aFn rfl rfl a2 rfl (by kernel_rfl) rfl rfl rfl ⟨⟨r,u,rfl,d5⟩,trivial⟩ (fun d6 d7 (b8:aN G g (bB 100 g d6 1 ([⟨a.Definition,0,p⟩]:List bS)::box o 91 [i64 a.Definition,zS d a.Values.length e]::bB 100 b k l j::L) d7)=>(cC (aB ⟨⟨_,(aN.weakK (aN.arr 2 [1,0] b8 rfl) y)⟩,?_⟩)))
   refine pP rfl ?_;obtain ⟨b9,d8,hm⟩:=aC hm
   refine aBJ (i:=1) g sT underlying96 aFn rfl rfl b8 rfl y (zR _) d8 rfl rfl rfl rfl (fun _ _ _ h=>El.one h) (fun a3 a5 d9 (c0:aN G g (box o 91 [i64 a.Definition,zS d a.Values.length e]::bB 100 g a3 a5 b9::L) d9)=>(cC (aB ⟨⟨_,(aN.weakK c0 y)⟩,?_⟩)))
   exact dV rfl (fun _ _=>gM (v:=zS a3 b9.length a5) rfl) (sQ (bM (aB (aV (bG a0 (aA (cD rfl rfl) (aD (v:=i64 (wr (Z+1))) (aG ⟨_,(zI hm).symm,aU,g,a3,a5,(zL c y),rfl,rfl,(aN.arr 1 [] c0 rfl)⟩))))))))
  ·exact cA
theorem jP {b:Bool} {R:Int} (hm:lF b=some R) (a:aN G K (L) w):
  Calls prog 239 ([zB b]:List Value).toArray w (eR fun v w'=>v=i64 R/\aN G K (L) w'):=by
 exact cA
theorem aNW {e:(List bP)} {k R:Int} (hm:aHy e k=some R) (g:aN G K (L) w) (h:cE K a1 c2 e):
  Calls prog 240 ([zS a1 e.length c2,i64 k]:List Value).toArray w (eR fun v w'=>v=i64 R/\aN G K (L) w'):=by
 refine aQ func240 rfl (by kernel_rfl) (by show (2:Nat)<=18;decide) ?_;unfold aHy at hm
 refine aL (aD (v:=i64 0) (aG (aL (aD (v:=i64 1) (aG (aO (bR [] (fun f w=>∃ a,aCA a=some R/\f 1=i64 a/\aN G K (L) w) cA ?_)))))));obtain ⟨i,b,ho⟩:=aC hm
 exact dN [0] b (fun c d f w=>f 1=i64 c/\f 5=i64 d/\aN G K (L) w) cA cA
theorem aPR {c a b R:Int} (hm:aFa c a b=some R) (o:aN G K (L) w):
  Calls prog 241 ([i64 c,i64 a,i64 b]:List Value).toArray w (eR fun v w'=>v=i64 R/\aN G K (L) w'):=by
 refine aQ func241 rfl (by kernel_rfl) (by show (3:Nat)<=67;decide) ?_;unfold aFa at hm
 refine aL (aD (v:=i64 0) (aG (aO (aL (aI (v:=i64 c) (aG (bZ (aL (aA (cX rfl rfl) (aD (v:=zB (c == 0)) (aG ?_)))))))))))
 rcases aH hm with ⟨e,hm⟩|⟨e,hm⟩
 ·exact cA
 ·refine aJ e rfl (aL (aA (cX rfl rfl) (aD (v:=zB (c == 1)) (aG ?_))))
  rcases aH hm with ⟨g,hm⟩|⟨g,hm⟩
  ·exact cA
  ·refine aJ g rfl (aL (aA (cX rfl rfl) (aD (v:=zB (c == 2)) (aG ?_))))
   rcases aH hm with ⟨h,hm⟩|⟨h,hm⟩
   ·exact cA
   ·refine aJ h rfl (aL (aA (cX rfl rfl) (aD (v:=zB (c == 3)) (aG ?_))))
    rcases aH hm with ⟨i,hm⟩|⟨i,hm⟩
    ·exact cA
    ·refine aJ i rfl (aL (aA (cX rfl rfl) (aD (v:=zB (c == 4)) (aG ?_))))
     rcases aH hm with ⟨j,hm⟩|⟨j,hm⟩
     ·exact cA
     ·refine aJ j rfl (aL (aA (cX rfl rfl) (aD (v:=zB (c == 5)) (aG ?_))))
      rcases aH hm with ⟨k,hm⟩|⟨k,hm⟩
      ·exact cA
      ·refine aJ k rfl (aL (aA (cX rfl rfl) (aD (v:=zB (c == 6)) (aG ?_))))
       rcases aH hm with ⟨l,hm⟩|⟨l,hm⟩
       ·exact cA
       ·refine aJ l rfl (aL (aA (cX rfl rfl) (aD (v:=zB (c == 7)) (aG ?_))))
        rcases aH hm with ⟨d,hm⟩|⟨d,hm⟩
        ·exact aM d rfl (aO (cW [] (fun f w=>∃ m,aGt m=some R/\f 6=i64 m/\aN G K (L) w) cA cA))
        ·exact aJ d rfl (aW (bM (aB (aO (cW [] (fun f w=>∃ n,aGu n=some R/\f 6=i64 n/\aN G K (L) w) cA cA)))))
theorem aMW {rec_:(List bP)->(List Int)->Int->Option Int} (g:∀ {G:pJ} {K:Hp} {L:List hQ} {w:World} {e:(List bP)} {a1:Option Addr} {c2:Nat} {a:(List Int)} {a4:Option Addr} {c5:Nat} {k:Int} {R:Int} (hm:rec_ e a k=some R) (c:aN G K (L) w) (b:cE K a1 c2 e) (d:cE K a4 c5 a),
  Calls prog 191 ([zS a1 e.length c2,zS a4 a.length c5,i64 k]:List Value).toArray w (eR fun v w'=>v=i64 R/\aN G K (L) w'))
  {G:pJ} {K:Hp} {L:List hQ} {w:World} {e:(List bP)} {a1:Option Addr} {c2:Nat} {a:(List Int)} {a4:Option Addr} {c5:Nat} {k:Int} {R:Int} (hm:vC rec_ e a k=some R) (c:aN G K (L) w) (b:cE K a1 c2 e) (d:cE K a4 c5 a):
  Calls prog 191 ([zS a1 e.length c2,zS a4 a.length c5,i64 k]:List Value).toArray w (eR fun v w'=>v=i64 R/\aN G K (L) w'):=by
 let j:=[zS a1 e.length c2,zS a4 a.length c5,i64 (wr (k+1))]
 refine aQ func191 rfl (by kernel_rfl) (by show (3:Nat)<=60;decide) ?_;unfold vC at hm
 refine aL (aD (v:=i64 0) (aG (aO (aL (aI (v:=zS a1 e.length c2) (aI (v:=i64 k) ?_))))));obtain ⟨h,l,hm⟩:=aC hm
 refine aA (cQ lE rfl b rfl rfl rfl l) ?_;obtain ⟨Z,m,p⟩:=cE.el (sz:=2) rfl b l
 cases p
 refine aA (cI (k':=k.toNat * 2+0) vY rfl m rfl) (aA (bX (t:=0) dC c m rfl rfl) (aG (bZ (aL (aA (cX rfl rfl) (aD (v:=zB (h.Kind == 0)) (aG ?_)))))))
 rcases aH hm with ⟨n,hm⟩|⟨n,hm⟩
 ·exact cA
 ·refine aJ n rfl (aL (aA (cX rfl rfl) (aD (v:=zB (h.Kind == 1)) (aG ?_))))
  rcases aH hm with ⟨o,hm⟩|⟨o,hm⟩
  ·exact cA
  ·refine aJ o rfl (aL (aA (cX rfl rfl) (aD (v:=zB (h.Kind == 3)) (aG ?_))))
   rcases aH hm with ⟨i,hm⟩|⟨i,hm⟩
   ·refine aM i rfl (aL (aI (v:=zS a1 e.length c2) (aI (v:=zS a4 a.length c5) (aI (v:=i64 k) (aA (cD rfl rfl) ?_)))));obtain ⟨a0,q,hm⟩:=aC hm
    exact aT (vs:=j) call191 rfl (g q c b d) cA
   ·refine aJ i rfl (aW (bM (aB (aL (aI (v:=zS a1 e.length c2) (aI (v:=zS a4 a.length c5) (aI (v:=i64 k) (aA (cD rfl rfl) ?_))))))));obtain ⟨r,u,hm⟩:=aC hm
    refine aT (vs:=j) call191 rfl (g u c b d) ?_
    rintro _ a2 ⟨rfl,x⟩
    refine aD (v:=i64 r) (aG (aL (aI (v:=zS a1 e.length c2) (aI (v:=zS a4 a.length c5) (aI (v:=zS a1 e.length c2) (aI (v:=i64 k) (aA (cD rfl rfl) ?_)))))));obtain ⟨y,z,hm⟩:=aC hm
    refine aT (vs:=[zS a1 e.length c2,i64 (wr (k+1))]) call240 rfl (aNW z x b) ?_
    rintro _ a3 ⟨rfl,J⟩
    obtain ⟨a5,V,hm⟩:=aC hm
    exact aT (vs:=[zS a1 e.length c2,zS a4 a.length c5,i64 y]) call191 rfl (g V J b d) cA
theorem aMX (n:Nat):∀ {G:pJ} {K:Hp} {L:List hQ} {w:World} {e:(List bP)} {a1:Option Addr} {c2:Nat} {a:(List Int)} {a4:Option Addr} {c5:Nat} {k:Int} {R:Int} (hm:vD n e a k=some R) (b:aN G K (L) w) (c:cE K a1 c2 e) (d:cE K a4 c5 a),
  Calls prog 191 ([zS a1 e.length c2,zS a4 a.length c5,i64 k]:List Value).toArray w (eR fun v w'=>v=i64 R/\aN G K (L) w'):=by
 induction n with
 |zero=>
  intro G K L w e a1 c2 a a4 c5 k R hm b c d
  unfold vD at hm
  cases hm
 |succ n ih=>
  intro G K L w e a1 c2 a a4 c5 k R hm b c d
  exact aMW (rec_:=vD n) (fun hm b c d=>ih hm b c d) hm b c d
theorem aPS {e:(List bP)} {values:(List Int)} {k R:Int} (hm:aPN e values k=some R) (hs:aN G K (L) w) (h3:cE K a1 c2 e) (h6:cE K a4 c5 values):
  Calls prog 191 ([zS a1 e.length c2,zS a4 values.length c5,i64 k]:List Value).toArray w (eR fun v w'=>v=i64 R/\aN G K (L) w'):=aMX 100000 hm hs h3 h6
theorem aHO {e:(List bP)} {a:(List Int)} {R:Int} (hm:yZ e a=some R) (b:aN G K (L) w) (c:cE K a1 c2 e) (d:cE K a4 c5 a):
  Calls prog 156 ([zS a1 e.length c2,zS a4 a.length c5]:List Value).toArray w (eR fun v w'=>v=i64 R/\aN G K (L) w'):=by
 exact cA
theorem aHP {a:(List (List bP))} {b R:(List Int)} (hm:aDI a b=some R) (m:aN G K (L) w) (p:cE K a1 c2 a) (q:cE K a4 c5 b):
  Calls prog 152 ([zS a1 a.length c2,zS a4 b.length c5]:List Value).toArray w (eR fun v w'=>∃ d e,v=zS d R.length e/\aN G K (bB 2 K d e R::L) w'):=by
 refine aQ func152 rfl (by kernel_rfl) (by show (2:Nat)<=24;decide) ?_;unfold aDI at hm
 refine aL (aD (v:=zS none 0 0) (aG (aL (eL (Kt:=K) (xs:=([]:List Int)) (cs:=[]) (vs:=[]) gF aFx rfl rfl m rfl (by kernel_rfl) rfl rfl rfl trivial (fun g n (r:aN G K (bB 2 K g 0 ([]:List Int)::L) n)=>(aD (v:=zS g ([]:List Int).length 0) (aG (aO (aL (aD (v:=i64 0) (aG (bR [] (fun f w=>∃ c h i,aDl c=some R/\f 5=zS h c.length i/\aN G K (bB 2 K h i c::L) w) cA ?_))))))))))));obtain ⟨t,o,ho⟩:=aC hm
 exact dN [0,1] o (fun j i32 f w=>∃ k l,f 5=zS k j.length l/\f 6=i64 i32/\aN G K (bB 2 K k l j::L) w) cA cA
theorem aMY {a b:(List Int)} {R:Bool} (hm:aFI a b=some R) (g:aN G K (L) w) (h:cE K a1 c2 a) (i:cE K a4 c5 b):
  Calls prog 109 ([zS a1 a.length c2,zS a4 b.length c5]:List Value).toArray w (eR fun v w'=>v=zB R/\aN G K (L) w'):=by
 refine aQ func109 rfl (by kernel_rfl) (by show (2:Nat)<=26;decide) ?_;unfold aFI at hm
 refine aL (aD (v:=zB false) (aG (aO (aL (aI (v:=zS a1 a.length c2) (aA (bQ (len:=a.length) gF rfl) (aI (v:=zS a4 b.length c5) (aA (bQ (len:=b.length) gF rfl) (aA (gL rfl rfl) (aG ?_))))))))))
 rcases aH hm with ⟨c,hm⟩|⟨c,hm⟩
 ·exact cA
 ·refine aJ c rfl (aW (aB (aO (aL (aD (v:=i64 0) (aG (bR [] (fun f w=>aDm=some R/\aN G K (L) w) cA ?_)))))));obtain ⟨j,d,ho⟩:=aC hm
  exact dS [0,1] d (fun e f w=>f 5=i64 e/\aN G K (L) w) cA cA
theorem aDc {a:bS} {c:Nat} {b:bS} {d:Nat} {R:Bool} (hm:qD a b=some R) (g:aN G K (L) w) (h:iR K a1 c [i64 a.Definition,i64 a.Part,zS a4 a.Values.length c5]) (i:cE K a4 c5 a.Values) (j:iR K a7 d [i64 b.Definition,i64 b.Part,zS a10 b.Values.length c11]) (k:cE K a10 c11 b.Values):
  Calls prog 75 ([eJ a1 c,eJ a7 d]:List Value).toArray w (eR fun v w'=>v=zB R/\aN G K (L) w'):=by
 refine aQ func75 rfl (by kernel_rfl) (by show (2:Nat)<=36;decide) ?_;unfold qD at hm
 exact aL (aD (v:=zB false) (aG (aO (cW [] (fun f w=>∃ e,mF e=some R/\f 4=zB e/\aN G K (L) w) cA cA))))
theorem aNX {n:Int} {R:bK} (hm:aHz n=some R) (hs:aN G K (L) w):
  Calls prog 238 ([i64 n]:List Value).toArray w (eR fun v w'=>v=str R/\aN G K (L) w'):=by
 refine aQ func238 rfl (by kernel_rfl) (by show (1:Nat)<=50;decide) ?_;unfold aHz at hm
 refine aL (aD (v:=str ([]:bK)) (aG (aO (aL (aI (v:=i64 n) (aA (cX rfl rfl) (aG ?_)))))))
 rcases aH hm with ⟨q,hm⟩|⟨q,hm⟩
 ·exact cA
 ·refine aJ q rfl (aW (aB (aL (eL (Kt:=K) (xs:=([]:List UInt8)) (cs:=[]) (vs:=[]) aDZ ez_5 rfl rfl hs rfl (by kernel_rfl) rfl rfl rfl trivial (fun r w4 (b5:aN G K (bB 5 K r 0 ([]:List UInt8)::L) w4)=>(aD (v:=zS r ([]:List UInt8).length 0) (aG (aO (aL (aI (v:=i64 n) (aD (v:=i64 n) (aG (bR [0] (fun f w=>∃ g k l,aCD n g=some R/\f 3=zS k g.length l/\aN G K (bB 5 K k l g::L) w) ?_ ?_)))))))))))))
  ·rintro f b6 ⟨g,k,l,hm,e9,b8⟩
   unfold aCD at hm
   refine aB (aAa [] (fun f w=>∃ a b c,aCC a=some R/\f 3=zS b a.length c/\aN G K (bB 5 K b c a::L) w) ?_ ?_)
   ·rintro f b9 ⟨a,b,c,hm,a2,a4⟩
    unfold aCC at hm
    refine aL (eL (Kt:=K) (xs:=([]:List UInt8)) (cs:=[]) (vs:=[]) aDZ ez_5 rfl rfl a4 rfl (by kernel_rfl) rfl rfl rfl trivial (fun t a5 (c0:aN G K (bB 5 K t 0 ([]:List UInt8)::bB 5 K b c a::L) a5)=>(aD (v:=zS t ([]:List UInt8).length 0) (aG (aO (aL (bG a2 (aA (bQ (len:=a.length) aDZ rfl) (aA (fY rfl rfl) (aD (v:=i64 (wr ((a.length:Int) - 1))) (aG (bR [] (fun f w=>∃ d m o,aFb d=some R/\f 6=zS m d.length o/\aN G K (bB 5 K m o d::L) w) ?_ ?_))))))))))))
    ·rintro f c2 ⟨d,m,o,hm,a6,u⟩
     unfold aFb at hm
     refine aB (aL (bG a6 (aA (aOF underlying159 underlying5 underlying9 u (i:=0) rfl rfl rfl) (aD (v:=str d) (aG ?_)))));obtain rfl:=zI hm
     exact aX (aP results238 rfl ⟨rfl,(aN.arr 1 [] u rfl)⟩)
    obtain ⟨c3,a9,ho⟩:=aC hm
    exact dN [3] a9 (fun x b0 f w=>∃ y z,f 6=zS y x.length z/\f 7=i64 b0/\aN G K (bB 5 K y z x::bB 5 K b c a::L) w) cA cA
   exact cA
  obtain ⟨c4,b1,ho⟩:=aC hm
  refine dN [0] b1 (fun e p f w=>∃ h j,f 3=zS h e.length j/\f 4=i64 p/\aN G K (bB 5 K h j e::L) w) cA ?_
  ·rintro e p b2 f c5 hm hr ⟨h,j,c6,J,c7⟩
   unfold aCF at hm
   refine aO (aL (bG J (aA (gL rfl rfl) (aG ?_))))
   rcases aH hm with ⟨V,hm⟩|⟨V,hm⟩
   ·refine aM V rfl (aW (aB (aO (bZ (aL (bG J ?_))))));obtain ⟨b3,b4,hm⟩:=aC hm
    exact aA (aLm rfl rfl b4) (aD (v:=i64 b3) (aG (aAa [0,3,4] (fun f w=>∃ Z,aCE e p Z=some b2/\f 5=i64 Z/\aN G K (bB 5 K h j e::L) w) cA cA)))
   ·exact cA
theorem aMZ {a:(List Int)} {R:bK} (hm:aFJ a=some R) (l:aN G K (L) w) (m:cE K a1 c2 a):
  Calls prog 190 ([zS a1 a.length c2]:List Value).toArray w (eR fun v w'=>v=str R/\aN G K (L) w'):=by
 refine aQ func190 rfl (by kernel_rfl) (by show (1:Nat)<=26;decide) ?_;unfold aFJ at hm
 refine aL (aD (v:=str ([]:bK)) (aG (aO (aL (aI (v:=zS a1 a.length c2) (aA (bQ (len:=a.length) gF rfl) (aA (cX rfl rfl) (aG ?_))))))))
 rcases aH hm with ⟨c,hm⟩|⟨c,hm⟩
 ·exact cA
 ·refine aJ c rfl (aW (aB (aL (aD (v:=str ([]:bK)) (aG (aO (aL (aD (v:=i64 0) (aG (bR [] (fun f w=>∃ d,aDn d=some R/\f 3=str d/\aN G K (L) w) cA ?_))))))))));obtain ⟨n,i,ho⟩:=aC hm
  refine dN [0] i (fun e b f w=>f 3=str e/\f 4=i64 b/\aN G K (L) w) cA ?_
  ·rintro e b j f o hm hr ⟨p,k,q⟩
   unfold rH at hm
   refine aO (aL (bG k (aI (v:=zS a1 a.length c2) (aA (bQ (len:=a.length) gF rfl) (aA (cM rfl rfl) (aG ?_))))))
   rcases aH hm with ⟨g,hm⟩|⟨g,hm⟩
   ·exact aM g rfl (aW (aB (aO (bZ (aAa [0,4] (fun f w=>∃ h,aAA a b h=some j/\f 3=str h/\aN G K (L) w) cA cA)))))
   ·exact cA
theorem aNa {b:bK} {a:(List Int)} {R:bK} (hm:aFK b a=some R) (c:aN G K (L) w) (d:cE K a1 c2 a):
  Calls prog 154 ([str b,zS a1 a.length c2]:List Value).toArray w (eR fun v w'=>v=str R/\aN G K (L) w'):=by
 exact cA
theorem aKI {c:(List dM)} {x_:dM} {R:(List dM)} (hm:zD c x_=some R) (hs:aN G K (bB 108 Kf a1 c2 c::L) w) (u:Hp.le Kf K) (x:cE Kf a3 c4 x_.Next.Values):
  Calls prog 153 ([zS a1 c.length c2,zA #[str x_.B,i64 x_.Next.Definition,i64 x_.Next.Part,zS a3 x_.Next.Values.length c4]]:List Value).toArray w (eR fun v w'=>∃ y z,v=zS y R.length z/\aN G K (bB 108 Kf y z R::L) w'):=by
 let d:=[str x_.B,i64 x_.Next.Definition,i64 x_.Next.Part,zS a3 x_.Next.Values.length c4]
 refine aQ func153 rfl (by kernel_rfl) (by show (2:Nat)<=33;decide) ?_;unfold zD at hm
 refine aL (dQ (v:=zA #[str x_.B,i64 x_.Next.Definition,i64 x_.Next.Part,zS a3 x_.Next.Values.length c4]) (vs:=d) hs rfl rfl (fun e w7 d6=>(aD (v:=zS none 0 0) (aG (aO (aL (aD (v:=i64 0) (aG (bR [0,3] (fun f w=>qE c x_=some R/\aN G K (box e 108 d::bB 108 Kf a1 c2 c::L) w) ?_ ?_)))))))))
 ·rintro f w9 ⟨hm,J⟩
  unfold qE at hm
  refine aB (aL (aI (v:=zS a1 c.length c2) (aA (eH (us:=d) aSj J (i:=0) rfl rfl rfl rfl) (eL (Kt:=Kf) (xs:=([x_]:List dM)) (cs:=d) (vs:=[(0,zA #[str x_.B,i64 x_.Next.Definition,i64 x_.Next.Part,zS a3 x_.Next.Values.length c4])]) tH aMJ rfl rfl J rfl (by kernel_rfl) rfl rfl rfl ⟨⟨a3,c4,rfl,x⟩,trivial⟩ (fun a9 b0 (b1:aN G K (bB 108 Kf a9 1 ([x_]:List dM)::box e 108 d::bB 108 Kf a1 c2 c::L) b0)=>?_)))))
  obtain ⟨V,b2,hm⟩:=aC hm
  refine aBJ (i:=1) Kf tH underlying104 aMJ rfl rfl b1 rfl (zR _) (zR _) b2 rfl rfl rfl rfl (fun _ _ _ h=>El.one h) (fun n o b3 (b4:aN G K (box e 108 d::bB 108 Kf n o V::L) b3)=>(aD (v:=zS n V.length o) (aG ?_)));obtain rfl:=zI hm
  exact aX (aP results153 rfl ⟨n,o,rfl,(aN.arr 1 [] b4 rfl)⟩)
 obtain ⟨d8,b7,ho⟩:=aC hm
 refine dS [0,3] b7 (fun j f w=>f 5=i64 j/\aN G K (box e 108 d::bB 108 Kf a1 c2 c::L) w) cA ?_
 ·rintro j b8 f d9 hm hr ⟨p,b9⟩
  unfold tO at hm
  refine aO (aL (bG p (aI (v:=zS a1 c.length c2) (aA (bQ (len:=c.length) tH rfl) (aA (cM rfl rfl) (aG ?_))))))
  rcases aH hm with ⟨Z,hm⟩|⟨Z,hm⟩
  ·refine aM Z rfl (aW (aB (aO (bZ (aO (cW [0,3,5] (fun f w=>∃ a0,tN c j a0=some b8/\f 27=zB a0/\aN G K (box e 108 d::bB 108 Kf a1 c2 c::L) w) cA ?_))))));obtain ⟨e0,a2,a4,c0,a5⟩:=aN.lendBp b9 .head
   obtain ⟨c1,q,r,a,a6⟩:=aN.lendSp c0 (zL u a2) .head
   refine dB (C:=fun w'=>aN G c1 (L) w') cB (by kernel_rfl) (aN.mono a (dW.drew _)) (aY (fun _ a=>bJ (v:=zS a1 c.length c2) rfl) (aY (fun _ a=>bJ p) ?_));obtain ⟨c3,k,hm⟩:=aC hm
   have l:=aPB r k
   refine aY (fun _ a=>gE tH rfl l rfl rfl rfl k) (aY (fun _ a=>kD (k':=j.toNat * 4+0) aHt l rfl rfl) ?_);obtain ⟨e1,c5,c6⟩:=cE.el (sz:=4) rfl r k
   obtain ⟨e2,e3,rfl,e4⟩:=c6
   refine aY (fun _ a=>bX (t:=0) fF a c5 rfl rfl) (aY (fun _ a=>bA (t':=0) aHt rfl rfl) (aY (fun _ a=>bX (t:=0) fF a (a4.mono q) rfl rfl) (aY (fun _ a=>lR rfl rfl) (aY (fun _ a=>bJ (v:=zB (c3.B == x_.B)) rfl) ?_))))
   rcases aH hm with ⟨b,hm⟩|⟨b,hm⟩
   ·refine bW (g:=20) rfl rfl b (aY (fun _ a=>bJ (v:=zS a1 c.length c2) rfl) (bW (g:=20) rfl rfl b (aY (fun _ a=>bJ p) (bW (g:=20) rfl rfl b (aY (fun _ a=>gE tH rfl l rfl rfl rfl k) (bW (g:=20) rfl rfl b (aY (fun _ a=>kD (k':=j.toNat * 4+1) aFz l rfl rfl) (bW (g:=20) rfl rfl b (aY (fun _ a=>bA (t':=1) aFz rfl rfl) (bW (g:=20) rfl rfl b ?_))))))))));obtain ⟨e5,c7,c8⟩:=cE.el (sz:=4) rfl r k
    obtain ⟨e6,e7,rfl,c9⟩:=c8
    obtain ⟨a7,d0,hm⟩:=aC hm
    refine eV (vs:=[eJ a1 (j.toNat * 4+1),eJ (some ⟨e,0,none⟩) (0+1)]) (v:=zB a7) call75 rfl (fun _ a=>(aDc d0 a (iR.sub (t:=1) (m:=3) c7 rfl) c9 (iR.sub (t:=1) (m:=3) (a4.mono q) rfl) (x.mono (zL (zL u a2) q)))) (aY (fun _ a=>bI (v:=zB a7) b rfl rfl) (dH (fun e8 d1=>?_)))
    have d2:=a6 _ _ d1
    have e9:=a5 _ _ d2
    exact cA
   ·refine bE (g:=20) rfl rfl (dE b) (bE (g:=20) rfl rfl (dE b) (bE (g:=20) rfl rfl (dE b) (bE (g:=20) rfl rfl (dE b) (bE (g:=20) rfl rfl (dE b) (bE (g:=20) rfl rfl (dE b) (aY (fun _ a=>bN (v:=zB false) b rfl rfl) (dH (fun f0 d3=>?_))))))))
    have d4:=a6 _ _ d3
    have f1:=a5 _ _ d4
    exact cA
  ·exact cA
end Gv
namespace Gv
open Gv.Hp renaming le_refl→zR
open Go.Value renaming slice→zS,bool→zB,agg→zA
open Option.some renaming inj→zI
open Gv.Hp renaming le_trans→zL
open Go Go.Proofs Go.Proofs.Tryz
set_option maxRecDepth 20000
set_option maxHeartbeats 40000000
variable {G:pJ} {K Kf:Hp} {L:List hQ} {w:World} {a1 a4 a7:Option Addr} {c2 c5 c8:Nat}
theorem aIz {rec_:(List Definition)->Int->Int->(List Int)->(List dM)->Option (List dM)} (ih:∀ {G:pJ} {K:Hp} {L:List hQ} {w:World} {Kf:Hp} {j:(List Definition)} {a1:Option Addr} {c2:Nat} {d:Int} {part:Int} {e:(List Int)} {a4:Option Addr} {c5:Nat} {out:(List dM)} {a7:Option Addr} {c8:Nat} {R:(List dM)} (hm:rec_ j d part e out=some R) (hs:aN G K (bB 108 Kf a7 c8 out::L) w) (z:Hp.le Kf K) (V:cE K a1 c2 j) (x:cE K a4 c5 e),
  Calls prog 108 ([zS a1 j.length c2,i64 d,i64 part,zS a4 e.length c5,zS a7 out.length c8]:List Value).toArray w (eR fun v w'=>∃ Z b8 b9,v=zS b8 R.length b9/\Hp.le K Z/\aN G Z (bB 108 Z b8 b9 R::L) w'))
  {G:pJ} {K:Hp} {L:List hQ} {w:World} {Kf:Hp} {j:(List Definition)} {a1:Option Addr} {c2:Nat} {d:Int} {part:Int} {e:(List Int)} {a4:Option Addr} {c5:Nat} {out:(List dM)} {a7:Option Addr} {c8:Nat} {R:(List dM)} (hm:cY rec_ j d part e out=some R) (hs:aN G K (bB 108 Kf a7 c8 out::L) w) (z:Hp.le Kf K) (V:cE K a1 c2 j) (x:cE K a4 c5 e):
  Calls prog 108 ([zS a1 j.length c2,i64 d,i64 part,zS a4 e.length c5,zS a7 out.length c8]:List Value).toArray w (eR fun v w'=>∃ Z b8 b9,v=zS b8 R.length b9/\Hp.le K Z/\aN G Z (bB 108 Z b8 b9 R::L) w'):=by
 let g0:=[zS a1 j.length c2,i64 d,i64 (wr (part+1)),zS a4 e.length c5,zS a7 out.length c8]
 let J:=bB 108 K a7 c8 out
 let c0:=bB 108 Kf a7 c8 out
 refine aQ func108 rfl (by kernel_rfl) (by show (5:Nat)<=125;decide) ?_;unfold cY at hm
 refine aL (aD (v:=zS none 0 0) (aG (aL (aI (v:=zS a1 j.length c2) (aI (v:=i64 d) ?_)))));obtain ⟨e9,g1,hm⟩:=aC hm
 refine aA (cQ iW rfl V rfl rfl rfl g1) ?_;obtain ⟨q3,g2,i3⟩:=cE.el (sz:=3) rfl V g1
 obtain ⟨a2,a3,rfl,a5⟩:=i3
 refine aA (cI (k':=d.toNat * 3+2) kT rfl g2 rfl) (aA (bX (t:=2) yQ hs g2 rfl rfl) (aD (v:=zS a2 e9.Body.length a3) (aG (aL (aI (v:=zS a2 e9.Body.length a3) (aI (v:=i64 part) ?_))))));obtain ⟨a,g3,hm⟩:=aC hm
 refine aA (cQ jV rfl a5 rfl rfl rfl g3) ?_;obtain ⟨q4,i4,i5⟩:=cE.el (sz:=4) rfl a5 g3
 obtain ⟨b,c,rfl,d8⟩:=i5
 refine aA (eK (t:=0) (vs:=[i64 a.Kind,i64 a.Number,str a.Name,zS b a.Arguments.length c]) tG hs i4 rfl rfl rfl) (cR (vs:=[i64 0,i64 0,str ([]:bK),zS none 0 0]) zeroValue162 hs rfl (fun g q5 i6=>(cO (i:=0) (ns:=[i64 a.Kind,i64 a.Number,str a.Name,zS b a.Arguments.length c]) (us:=[i64 a.Kind,i64 a.Number,str a.Name,zS b a.Arguments.length c]) sizeOf162 i6 rfl rfl rfl rfl rfl (dU rfl) rfl rfl (fun b1 (y:aN G K (box g 162 [i64 a.Kind,i64 a.Number,str a.Name,zS b a.Arguments.length c]::c0::L) b1)=>(aG (aO (aL (aI (v:=zS a7 out.length c8) (aA (bQ (len:=out.length) tH rfl) (aA (kA rfl rfl) (aG ?_)))))))))))
 rcases aH hm with ⟨d9,hm⟩|⟨d9,hm⟩
 ·refine aM d9 rfl (aL (aI (v:=zS a7 out.length c8) (aD (v:=zS a7 out.length c8) (aG ?_))))
  have q6:aN G K (box g 162 [i64 a.Kind,i64 a.Number,str a.Name,zS b a.Arguments.length c]::J::L) b1:=aN.weak (i:=1) y rfl (fun _ h=>bB.mono z h)
  exact cA
 ·refine aJ d9 rfl (aW (aB (aO (aL (aA (bA (t':=0) fE rfl rfl) (aA (bO dC y (i:=0) rfl rfl rfl) (aG (bR [] (fun f w=>∃ e0 e1 g4 g5,Hp.le K e0/\rV e1=some R/\f 4=zS g4 e1.length g5/\aN G e0 (bB 108 e0 g4 g5 e1::L) w) cA (aL (aA (cX rfl rfl) (aD (v:=zB (a.Kind == 1)) (aG ?_))))))))))))
  rcases aH hm with ⟨e2,hm⟩|⟨e2,hm⟩
  ·refine aM e2 rfl (aL (aI (v:=i64 d) (aI (v:=i64 part) (aA (cD rfl rfl) (aI (v:=zS a4 e.length c5) ?_)))));obtain ⟨b2,i7,hm⟩:=aC hm
   refine aT (vs:=[zS a4 e.length c5]) call72 rfl (aCm i7 y x) ?_
   rintro _ q7 ⟨b3,b4,rfl,i8⟩
   refine aA (iA (vs:=[(0,i64 d),(1,i64 (wr (part+1))),(2,zS b3 b2.length b4)]) (cs:=[i64 d,i64 (wr (part+1)),zS b3 b2.length b4]) aKC rfl (by kernel_rfl)) (cR (vs:=[i64 0,i64 0,zS none 0 0]) zeroValue100 i8 rfl (fun a6 q8 i9=>(cO (i:=0) (ns:=[i64 d,i64 (wr (part+1)),zS b3 b2.length b4]) (us:=[i64 d,i64 (wr (part+1)),zS b3 b2.length b4]) sizeOf100 i9 rfl rfl rfl rfl rfl (dU rfl) rfl rfl (fun j0 (e3:aN G K (box a6 100 [i64 d,i64 (wr (part+1)),zS b3 b2.length b4]::bB 2 K b3 b4 b2::box g 162 [i64 a.Kind,i64 a.Number,str a.Name,zS b a.Arguments.length c]::c0::L) j0)=>(aG (aAa [3,4,12,13] (fun f w=>∃ l m k n o,oD e out a l m k=some R/\aN G K (bB 2 K n o k::box a6 100 [i64 l,i64 m,zS n k.length o]::box g 162 [i64 a.Kind,i64 a.Number,str a.Name,zS b a.Arguments.length c]::c0::L) w) ?_ ?_))))))
   ·rintro f j1 ⟨l,m,k,n,o,hm,j2⟩
    unfold oD at hm
    refine aO ?_
    have g6:aN G K (box a6 100 [i64 l,i64 m,zS n k.length o]::box g 162 [i64 a.Kind,i64 a.Number,str a.Name,zS b a.Arguments.length c]::bB 2 K n o k::c0::L) j1:=(aN.arr 3 [1,2,0] j2 rfl)
    refine jJ (C:=fun w'=>∃ L',aN G K (box a6 100 [i64 l,i64 m,zS n k.length o]::box g 162 [i64 a.Kind,i64 a.Number,str a.Name,zS b a.Arguments.length c]::L') w') [(0,0),(1,0),(2,0),(3,0),(4,0),(5,0),(8,0),(6,1),(7,1),(9,0),(10,1),(11,0)] cB (by kernel_rfl) (fun _ hg=>⟨_,aN.mono g6 hg⟩) (fun q9 j3=>?_)
    have a8:=aN.mono g6 j3
    refine dV rfl (fun _ _=>bJ (v:=zS a7 out.length c8) rfl) (dV rfl (fun _ _=>bA (t':=2) lU rfl rfl) (dV rfl (fun _ ⟨_,a8⟩=>bO fF a8 (i:=1) rfl rfl rfl) (dV rfl (fun _ _=>bA (t':=3) jC rfl rfl) (dV rfl (fun _ ⟨_,a8⟩=>bO pQ a8 (i:=1) rfl rfl rfl) (dV rfl (fun _ _=>bJ (v:=zS a4 e.length c5) rfl) (dV rfl (fun _ ⟨_,a8⟩=>eH (us:=[i64 l,i64 m,zS n k.length o]) aAe a8 (i:=0) rfl rfl rfl rfl) (pP rfl ?_)))))))
    obtain ⟨c9,j4,hm⟩:=aC hm
    refine aT (vs:=[zS b a.Arguments.length c,zS a4 e.length c5]) call152 rfl (aHP j4 a8 d8 x) ?_
    rintro _ r0 ⟨d0,d1,rfl,g7⟩
    refine cC (aB ⟨⟨_,(aN.arr 3 [1,2,0] g7 rfl)⟩,?_⟩)
    refine pP rfl ?_;obtain ⟨r1,r2,j5,j6,j7⟩:=aN.lendSp g7 (zR _) .head
    obtain ⟨d2,j8,hm⟩:=aC hm
    refine aT (vs:=[str a.Name,zS d0 c9.length d1]) call154 rfl (aNa j8 j6 j5) ?_
    rintro _ e4 ⟨rfl,j9⟩
    have g8:=j7 _ _ j9
    refine cC (aB ⟨⟨_,(aN.arr 3 [1,2,0] g8 rfl)⟩,?_⟩)
    refine dV rfl (fun _ _=>iA (vs:=[(0,str d2),(1,zA #[i64 l,i64 m,zS n k.length o])]) (cs:=[str d2,i64 l,i64 m,zS n k.length o]) bs_108 rfl (by kernel_rfl)) (pP rfl ?_);obtain ⟨b5,g9,k0,e5⟩:=aN.giveSp g8 (zR _) zt3
    replace e5:aN G b5 (bB 2 K d0 d1 c9::box a6 100 [i64 l,i64 m,zS n k.length o]::box g 162 [i64 a.Kind,i64 a.Number,str a.Name,zS b a.Arguments.length c]::c0::L) e4:=e5
    have k1:aN G b5 (bB 2 K d0 d1 c9::box a6 100 [i64 l,i64 m,zS n k.length o]::box g 162 [i64 a.Kind,i64 a.Number,str a.Name,zS b a.Arguments.length c]::bB 108 b5 a7 c8 out::L) e4:=aN.weak (i:=3) e5 rfl (fun _ h=>bB.mono (zL z g9) h)
    have k2:aN G b5 (bB 108 b5 a7 c8 out::bB 2 K d0 d1 c9::box a6 100 [i64 l,i64 m,zS n k.length o]::box g 162 [i64 a.Kind,i64 a.Number,str a.Name,zS b a.Arguments.length c]::L) e4:=(aN.arr 4 [3,0,1,2] k1 rfl)
    obtain ⟨k3,k4,hm⟩:=aC hm
    refine aT (vs:=[zS a7 out.length c8,zA #[str d2,i64 l,i64 m,zS n k.length o]]) call153 rfl (aKI (Kf:=b5) (x_:=⟨d2,⟨l,m,k⟩⟩) k4 k2 (zR _) k0) ?_
    rintro _ r3 ⟨k5,k6,rfl,k7⟩
    refine cC (aB ⟨⟨_,(aN.weakK (aN.arr 4 [2,3,0,1] k7 rfl) g9)⟩,?_⟩)
    exact dV rfl (fun _ _=>gM (v:=zS k5 k3.length k6) rfl) (sQ cA)
   refine aL (aI (v:=zS a2 e9.Body.length a3) (aI (v:=i64 part) (aA (cD rfl rfl) ?_)));obtain ⟨k8,d3,hm⟩:=aC hm
   refine aA (cQ jV rfl a5 rfl rfl rfl d3) ?_;obtain ⟨r4,b6,k9⟩:=cE.el (sz:=4) rfl a5 d3
   obtain ⟨l0,l1,rfl,l2⟩:=k9
   refine aA (cI (k':=(wr (part+1)).toNat * 4+0) fE rfl b6 rfl) (aA (bX (t:=0) dC e3 b6 rfl rfl) (aA (cX rfl rfl) (aG ?_)))
   rcases aH hm with ⟨h0,hm⟩|⟨h0,hm⟩
   ·refine aM h0 rfl (jJ (C:=fun w'=>∃ L',aN G K L' w') [(0,0),(1,0),(2,0),(3,0),(4,0),(5,0),(6,0),(7,0),(8,0),(9,0),(10,0),(11,0),(12,0),(13,1),(14,0),(15,2)] cB (by kernel_rfl) (fun _ hg=>⟨_,aN.mono e3 hg⟩) (fun r5 l3=>?_))
    have c1:=aN.mono e3 l3
    refine dV rfl (fun _ _=>bJ (v:=zS a2 e9.Body.length a3) rfl) (dV rfl (fun _ _=>bJ (v:=i64 part) rfl) (dV rfl (fun _ _=>cD rfl rfl) (dV rfl (fun _ _=>cQ jV rfl a5 rfl rfl rfl d3) (dV rfl (fun _ _=>cI (k':=(wr (part+1)).toNat * 4+1) jW rfl b6 rfl) (dV rfl (fun _ ⟨_,c1⟩=>bX (t:=1) dC c1 b6 rfl rfl) (dV rfl (fun _ _=>bJ (v:=zS a2 e9.Body.length a3) rfl) (dV rfl (fun _ _=>bJ (v:=i64 part) rfl) (dV rfl (fun _ _=>cD rfl rfl) (dV rfl (fun _ _=>cQ jV rfl a5 rfl rfl rfl d3) (dV rfl (fun _ _=>cI (k':=(wr (part+1)).toNat * 4+3) jC rfl b6 rfl) (dV rfl (fun _ ⟨_,c1⟩=>bX (t:=3) pQ c1 b6 rfl rfl) (dV rfl (fun _ _=>bJ (v:=zS a4 e.length c5) rfl) (pP rfl ?_)))))))))))))
    obtain ⟨r6,l4,hm⟩:=aC hm
    exact aT (vs:=[zS l0 k8.Arguments.length l1,zS a4 e.length c5]) call152 rfl (aHP l4 c1 l2 x) cA
   ·exact cA
  ·refine aJ e2 rfl (aL (aA (cX rfl rfl) (aD (v:=zB (a.Kind == 2)) (aG ?_))))
   rcases aH hm with ⟨e6,hm⟩|⟨e6,hm⟩
   ·refine aM e6 rfl (aL (aI (v:=zS a1 j.length c2) (aI (v:=i64 d) (aI (v:=i64 part) (aA (cD rfl rfl) (aI (v:=zS a4 e.length c5) (aI (v:=zS a7 out.length c8) ?_)))))))
    have l5:aN G K (box g 162 [i64 a.Kind,i64 a.Number,str a.Name,zS b a.Arguments.length c]::J::L) b1:=aN.weak (i:=1) y rfl (fun _ h=>bB.mono z h)
    have l6:aN G K (J::box g 162 [i64 a.Kind,i64 a.Number,str a.Name,zS b a.Arguments.length c]::L) b1:=(aN.arr 2 [1,0] l5 rfl)
    obtain ⟨e7,l7,hm⟩:=aC hm
    refine aT (vs:=g0) call108 rfl (ih (Kf:=K) l7 l6 (zR _) V x) ?_
    rintro _ r7 ⟨l8,e8,f0,rfl,d4,l9⟩
    refine aD (v:=zS e8 e7.length f0) (aG (aL (aI (v:=zS a1 j.length c2) (aI (v:=i64 d) (aI (v:=zS a2 e9.Body.length a3) (aI (v:=i64 part) (aA (cD rfl rfl) ?_)))))));obtain ⟨m0,m1,hm⟩:=aC hm
    refine aT (vs:=[zS a2 e9.Body.length a3,i64 (wr (part+1))]) call155 rfl (aIS m1 l9 (a5.mono d4)) ?_
    rintro _ r8 ⟨rfl,m2⟩
    refine aI (v:=zS a4 e.length c5) (aI (v:=zS e8 e7.length f0) ?_);obtain ⟨m3,m4,hm⟩:=aC hm
    refine aT (vs:=[zS a1 j.length c2,i64 d,i64 m0,zS a4 e.length c5,zS e8 e7.length f0]) call108 rfl (ih (Kf:=l8) m4 m2 (zR _) (V.mono d4) (x.mono d4)) ?_
    rintro _ r9 ⟨m5,h1,h2,rfl,m6,m7⟩
    refine aD (v:=zS h1 m3.length h2) (aG ?_);obtain rfl:=zI hm
    exact aX (aZ (aK (aK (aP results108 rfl ⟨m5,h1,h2,rfl,(zL d4 m6),(aN.arr 2 [0] m7 rfl)⟩))))
   ·refine aJ e6 rfl (aL (aA (cX rfl rfl) (aD (v:=zB (a.Kind == 3)) (aG ?_))))
    rcases aH hm with ⟨f1,hm⟩|⟨f1,hm⟩
    ·refine aM f1 rfl (aL (aA (bA (t':=3) jC rfl rfl) (aA (bO pQ y (i:=0) rfl rfl rfl) ?_)));obtain ⟨m9,h4,hm⟩:=aC hm
     refine aA (cQ jR rfl d8 rfl rfl rfl h4) ?_;obtain ⟨s0,n0,n1⟩:=cE.el (sz:=1) rfl d8 h4
     obtain ⟨n2,n3,rfl,n4⟩:=n1
     refine aA (bX (t:=0) aFm y n0 rfl rfl) (aI (v:=zS a4 e.length c5) ?_);obtain ⟨s1,n5,hm⟩:=aC hm
     refine aT (vs:=[zS n2 m9.length n3,zS a4 e.length c5]) call156 rfl (aHO n5 y n4 x) ?_
     rintro _ f2 ⟨rfl,h5⟩
     refine aA (gL rfl rfl) (aG ?_)
     rcases aH hm with ⟨f3,hm⟩|⟨f3,hm⟩
     ·refine aM f3 rfl (aL (aI (v:=zS a1 j.length c2) (aI (v:=i64 d) (aI (v:=i64 part) (aA (cD rfl rfl) (aI (v:=zS a4 e.length c5) (aI (v:=zS a7 out.length c8) ?_)))))))
      have n6:aN G K (box g 162 [i64 a.Kind,i64 a.Number,str a.Name,zS b a.Arguments.length c]::J::L) f2:=aN.weak (i:=1) h5 rfl (fun _ h=>bB.mono z h)
      have n7:aN G K (J::box g 162 [i64 a.Kind,i64 a.Number,str a.Name,zS b a.Arguments.length c]::L) f2:=(aN.arr 2 [1,0] n6 rfl)
      obtain ⟨s2,n8,hm⟩:=aC hm
      exact aT (vs:=g0) call108 rfl (ih (Kf:=K) n8 n7 (zR _) V x) cA
     ·refine aJ f3 rfl ?_
      have s3:aN G K (box g 162 [i64 a.Kind,i64 a.Number,str a.Name,zS b a.Arguments.length c]::J::L) f2:=aN.weak (i:=1) h5 rfl (fun _ h=>bB.mono z h)
      exact cA
    ·refine aJ f1 rfl (aL (aA (cX rfl rfl) (aD (v:=zB (a.Kind == 4)) (aG ?_))))
     rcases aH hm with ⟨f4,hm⟩|⟨f4,hm⟩
     ·refine aM f4 rfl (aL (aD (v:=i64 0) (aG (bR [] (fun f w=>∃ c3 c4 d5 d6,Hp.le K c3/\xS c4=some R/\f 4=zS d5 c4.length d6/\aN G c3 (bB 108 c3 d5 d6 c4::L) w) ?_ ?_))))
      ·rintro f s4 ⟨c3,c4,d5,d6,n9,hm,o0,o1⟩
       unfold xS at hm
       exact bM (aB ⟨aU,c3,c4,d5,d6,n9,hm,o0,o1⟩)
      have s5:aN G K (box g 162 [i64 a.Kind,i64 a.Number,str a.Name,zS b a.Arguments.length c]::J::L) b1:=aN.weak (i:=1) y rfl (fun _ h=>bB.mono z h)
      obtain ⟨s6,o2,ho⟩:=aC hm
      refine dN [0,1,2,3,12] o2 (fun p a9 f w=>∃ q r u,Hp.le K q/\f 4=zS r p.length u/\f 14=i64 a9/\aN G q (box g 162 [i64 a.Kind,i64 a.Number,str a.Name,zS b a.Arguments.length c]::bB 108 q r u p::L) w) cA ?_
      ·rintro p a9 s7 f s8 hm hr ⟨q,r,u,b0,h7,f5,f6⟩
       unfold kQ at hm
       refine aO (aL (bG f5 (aA (bA (t':=1) jW rfl rfl) (aA (bO dC f6 (i:=0) rfl rfl rfl) (aA (aBl rfl rfl) (aG ?_))))))
       rcases aH hm with ⟨f7,hm⟩|⟨f7,hm⟩
       ·refine aM f7 rfl (aW (aB (aO (bZ (aV (aI (v:=zS a1 j.length c2) (aI (v:=i64 d) (aI (v:=i64 part) (aA (cD rfl rfl) (aI (v:=zS a4 e.length c5) ?_))))))))));obtain ⟨o3,o4,hm⟩:=aC hm
        refine aT (vs:=[zS a4 e.length c5]) call72 rfl (aCm o4 f6 (x.mono b0)) ?_
        rintro _ s9 ⟨o5,o6,rfl,o7⟩
        refine bG f5 (eL (Kt:=K) (xs:=([a9]:List Int)) (cs:=[i64 a9]) (vs:=[(0,i64 a9)]) gF aFx rfl rfl o7 rfl (by kernel_rfl) rfl rfl rfl ⟨rfl,trivial⟩ (fun o8 o9 (p0:aN G q (bB 2 K o8 1 ([a9]:List Int)::bB 2 K o5 o6 o3::box g 162 [i64 a.Kind,i64 a.Number,str a.Name,zS b a.Arguments.length c]::bB 108 q r u p::L) o9)=>?_));obtain ⟨h8,p1,hm⟩:=aC hm
        refine lL (i:=0) gF underlying78 aFx rfl rfl p0 rfl b0 b0 p1 rfl rfl rfl rfl (fun _ h=>h) (fun h9 i0 d7 (p2:aN G q (bB 2 K h9 i0 h8::box g 162 [i64 a.Kind,i64 a.Number,str a.Name,zS b a.Arguments.length c]::bB 108 q r u p::L) d7)=>(bG h7 ?_));obtain ⟨b7,f8,p3,f9⟩:=aN.giveSp p2 b0 .head
        replace f9:aN G b7 (box g 162 [i64 a.Kind,i64 a.Number,str a.Name,zS b a.Arguments.length c]::bB 108 q r u p::L) d7:=f9
        have p4:aN G b7 (box g 162 [i64 a.Kind,i64 a.Number,str a.Name,zS b a.Arguments.length c]::bB 108 b7 r u p::L) d7:=aN.weak (i:=1) f9 rfl (fun _ h=>bB.mono f8 h)
        have p5:aN G b7 (bB 108 b7 r u p::box g 162 [i64 a.Kind,i64 a.Number,str a.Name,zS b a.Arguments.length c]::L) d7:=(aN.arr 2 [1,0] p4 rfl)
        obtain ⟨p6,p7,hm⟩:=aC hm
        refine aT (vs:=[zS a1 j.length c2,i64 d,i64 (wr (part+1)),zS h9 h8.length i0,zS r p.length u]) call108 rfl (ih (Kf:=b7) p7 p5 (zR _) (V.mono (zL b0 f8)) p3) ?_
        rintro _ t0 ⟨p8,i1,i2,rfl,p9,q0⟩
        exact aD (v:=zS i1 p6.length i2) (cC (bM (aB (aV (bG f5 (aA (cD rfl rfl) (aD (v:=i64 (wr (a9+1))) (aG ⟨_,(zI hm).symm,aU,p8,i1,i2,(zL (zL b0 f8) p9),rfl,rfl,(aN.arr 2 [1,0] q0 rfl)⟩))))))))
       ·refine aJ f7 rfl (cL (bF (bF ?_)))
        have q1:=hr _ (zI hm).symm
        subst q1
        have hm:(xS p)=some R:=ho
        clear hr ho
        exact bU (aB ⟨aU,q,p,r,u,b0,hm,h7,(aN.arr 1 [] f6 rfl)⟩)
     ·refine aJ f4 rfl ?_
      have q2:aN G K (box g 162 [i64 a.Kind,i64 a.Number,str a.Name,zS b a.Arguments.length c]::J::L) b1:=aN.weak (i:=1) y rfl (fun _ h=>bB.mono z h)
      exact aW (bM (aB ⟨aU,K,out,a7,c8,(zR _),hm,rfl,(aN.arr 1 [] q2 rfl)⟩))
theorem aIA (n:Nat):∀ {G:pJ} {K:Hp} {L:List hQ} {w:World} {Kf:Hp} {a:(List Definition)} {a1:Option Addr} {c2:Nat} {d:Int} {part:Int} {b:(List Int)} {a4:Option Addr} {c5:Nat} {out:(List dM)} {a7:Option Addr} {c8:Nat} {R:(List dM)} (hm:dI n a d part b out=some R) (c:aN G K (bB 108 Kf a7 c8 out::L) w) (e:Hp.le Kf K) (g:cE K a1 c2 a) (h:cE K a4 c5 b),
  Calls prog 108 ([zS a1 a.length c2,i64 d,i64 part,zS a4 b.length c5,zS a7 out.length c8]:List Value).toArray w (eR fun v w'=>∃ i j k,v=zS j R.length k/\Hp.le K i/\aN G i (bB 108 i j k R::L) w'):=by
 induction n with
 |zero=>
  intro G K L w Kf a a1 c2 d part b a4 c5 out a7 c8 R hm c e g h
  unfold dI at hm
  cases hm
 |succ n ih=>
  intro G K L w Kf a a1 c2 d part b a4 c5 out a7 c8 R hm c e g h
  exact aIz (rec_:=dI n) (fun hm c e g h=>ih hm c e g h) hm c e g h
theorem aJU {list:(List Definition)} {d part:Int} {values:(List Int)} {out R:(List dM)} (hm:aDo list d part values out=some R) (hs:aN G K (bB 108 Kf a7 c8 out::L) w) (hKf:Hp.le Kf K) (h3:cE K a1 c2 list) (h6:cE K a4 c5 values):
  Calls prog 108 ([zS a1 list.length c2,i64 d,i64 part,zS a4 values.length c5,zS a7 out.length c8]:List Value).toArray w (eR fun v w'=>∃ K' ra1 rc1,v=zS ra1 R.length rc1/\Hp.le K K'/\aN G K' (bB 108 K' ra1 rc1 R::L) w'):=aIA 100000 hm hs hKf h3 h6
theorem aPw {d:(List Definition)} {p:bS} {b:Nat} {R:((List dM) × Bool)} (hm:aDp d p=some R) (g:aN G K (L) w) (n:cE K a1 c2 d) (a:iR K a4 b [i64 p.Definition,i64 p.Part,zS a7 p.Values.length c8]) (o:cE K a7 c8 p.Values):
  Calls prog 74 ([zS a1 d.length c2,eJ a4 b]:List Value).toArray w (eR fun v w'=>∃ e h i,v=Value.tuple #[zS h R.1.length i,zB R.2]/\Hp.le K e/\aN G e (bB 108 e h i R.1::L) w'):=by
 refine aQ func74 rfl (by kernel_rfl) (by show (2:Nat)<=26;decide) ?_;unfold aDp at hm
 refine aL (aD (v:=zS none 0 0) (aD (v:=zB false) (aG (aO (jJ (C:=fun w'=>∃ L',aN G K L' w') [(0,0),(1,0),(2,0),(3,0),(4,0),(5,0),(6,0),(7,0),(8,0),(9,0),(10,0),(11,0),(12,0),(13,1),(14,1),(15,0)] cB (by kernel_rfl) (fun _ hg=>⟨_,aN.mono g hg⟩) (fun q j=>?_))))))
 have c:=aN.mono g j
 refine dV rfl (fun _ _=>bJ (v:=zS a1 d.length c2) rfl) (dV rfl (fun _ _=>bJ (v:=eJ a4 b) rfl) (dV rfl (fun _ _=>dG rfl a) (dV rfl (fun _ _=>cI (k':=b+0) aHq rfl a rfl) (dV rfl (fun _ ⟨_,c⟩=>bX (t:=0) dC c a rfl rfl) (dV rfl (fun _ _=>bJ (v:=eJ a4 b) rfl) (dV rfl (fun _ _=>dG rfl a) (dV rfl (fun _ _=>cI (k':=b+1) aHr rfl a rfl) (dV rfl (fun _ ⟨_,c⟩=>bX (t:=1) dC c a rfl rfl) (dV rfl (fun _ _=>bJ (v:=eJ a4 b) rfl) (dV rfl (fun _ _=>dG rfl a) (dV rfl (fun _ _=>cI (k':=b+2) aHs rfl a rfl) (dV rfl (fun _ ⟨_,c⟩=>bX (t:=2) aCq c a rfl rfl) (pP rfl (eL (Kt:=K) (xs:=([]:List dM)) (cs:=[]) (vs:=[]) tH aMJ rfl rfl c rfl (by kernel_rfl) rfl rfl rfl trivial (fun k l (m:aN G K (bB 108 K k 0 ([]:List dM)::L) l)=>(cC (aB ⟨⟨_,m⟩,?_⟩)))))))))))))))))
 exact pP rfl cA
theorem aHQ {a:(List bK)} {s_:bK} {R:Int} (hm:aDJ a s_=some R) (d:aN G K (L) w) (e:cE K a1 c2 a):
  Calls prog 111 ([zS a1 a.length c2,str s_]:List Value).toArray w (eR fun v w'=>v=i64 R/\aN G K (L) w'):=by
 refine aQ func111 rfl (by kernel_rfl) (by show (2:Nat)<=19;decide) ?_;unfold aDJ at hm
 refine aL (aD (v:=i64 0) (aG (aO (aL (aD (v:=i64 0) (aG (bR [] (fun f w=>aDq=some R/\aN G K (L) w) cA ?_)))))));obtain ⟨g,b,ho⟩:=aC hm
 exact dS [0,1] b (fun c f w=>f 5=i64 c/\aN G K (L) w) cA cA
theorem aNb {g R:(List bK)} (hm:aFL g=some R) (hs:aN G K (L) w) (y:cE K a1 c2 g):
  Calls prog 110 ([zS a1 g.length c2]:List Value).toArray w (eR fun v w'=>∃ b0 b1,v=zS b0 R.length b1/\aN G K (bB 9 K b0 b1 R::L) w'):=by
 refine aQ func110 rfl (by kernel_rfl) (by show (1:Nat)<=65;decide) ?_;unfold aFL at hm
 refine aL (aD (v:=zS none 0 0) (aG (aL (eL (Kt:=K) (xs:=([([116,97,117]:bK)]:List bK)) (cs:=[str ([116,97,117]:bK)]) (vs:=[(0,str ([116,97,117]:bK))]) dL aCp rfl rfl hs rfl (by kernel_rfl) rfl rfl rfl ⟨rfl,trivial⟩ (fun a4 w5 (f8:aN G K (bB 9 K a4 1 ([([116,97,117]:bK)]:List bK)::L) w5)=>(aD (v:=zS a4 ([([116,97,117]:bK)]:List bK).length 1) (aG (aO (aL (aD (v:=i64 0) (aG (bR [] (fun f w=>∃ z a8 c9,aDr z=some R/\f 3=zS a8 z.length c9/\aN G K (bB 9 K a8 c9 z::L) w) cA ?_))))))))))))
 obtain ⟨f9,d4,ho⟩:=aC hm
 refine dN [0] d4 (fun c j f w=>∃ d e,f 3=zS d c.length e/\f 4=i64 j/\aN G K (bB 9 K d e c::L) w) cA ?_
 ·rintro c j J f g0 hm hr ⟨d,e,b5,m,b6⟩
  unfold rI at hm
  refine aO (aL (bG m (aI (v:=zS a1 g.length c2) (aA (bQ (len:=g.length) dL rfl) (aA (cM rfl rfl) (aG ?_))))))
  rcases aH hm with ⟨b7,hm⟩|⟨b7,hm⟩
  ·refine aM b7 rfl (aW (aB (aO (bR [0,4] (fun f w=>∃ o p q,vE j o=some J/\f 3=zS p o.length q/\aN G K (bB 9 K p q o::L) w) ?_ ?_))))
   ·rintro f g1 ⟨o,p,q,hm,d5,d6⟩
    unfold vE at hm
    exact aB (aV (bG m (aA (cD rfl rfl) (aD (v:=i64 (wr (j+1))) (aG ⟨_,(zI hm).symm,aU,p,q,d5,rfl,d6⟩)))))
   refine aO (aL (bG b5 (aI (v:=zS a1 g.length c2) (bG m ?_))));obtain ⟨k,V,hm⟩:=aC hm
   refine aA (cQ dL rfl y rfl rfl rfl V) ?_;obtain ⟨g2,b8,d7⟩:=cE.el (sz:=1) rfl y V
   cases d7
   refine aA (bX (t:=0) fF b6 b8 rfl rfl) ?_;obtain ⟨g3,g4,d8,d9,e0⟩:=aN.lendSp b6 (zR _) .head
   obtain ⟨g5,e1,hm⟩:=aC hm
   refine aT (vs:=[zS d c.length e,str k]) call111 rfl (aHQ e1 d9 d8) ?_
   rintro _ g6 ⟨rfl,e2⟩
   have g7:=e0 _ _ e2
   refine aA (tF rfl rfl) (aG ?_)
   rcases aH hm with ⟨b9,hm⟩|⟨b9,hm⟩
   ·exact cA
   ·refine aJ b9 rfl (aW (aB (aL (aD (v:=i64 1) (aG (aO (bR [0,3,4] (fun f w=>∃ r,aAE c j k r=some J/\f 5=i64 r/\aN G K (bB 9 K d e c::L) w) ?_ ?_)))))))
    ·rintro f g8 ⟨r,hm,c0,e3⟩
     unfold aAE at hm
     refine aB (aL (bG b5 (eL (Kt:=K) (xs:=([([]:bK)]:List bK)) (cs:=[str ([]:bK)]) (vs:=[(0,str ([]:bK))]) dL aCp rfl rfl e3 rfl (by kernel_rfl) rfl rfl rfl ⟨rfl,trivial⟩ (fun e4 e5 (e6:aN G K (bB 9 K e4 1 ([([]:bK)]:List bK)::bB 9 K d e c::L) e5)=>?_))));obtain ⟨l,e7,hm⟩:=aC hm
     refine lL (i:=0) dL underlying25 aCp rfl rfl e6 rfl (zR _) (zR _) e7 rfl rfl rfl rfl (fun _ h=>h) (fun a b e8 (g9:aN G K (bB 9 K a b l::L) e8)=>(aD (v:=zS a l.length b) (aG (aO (aL (aI (v:=zS a l.length b) (aA (bQ (len:=l.length) dL rfl) (aA (fY rfl rfl) (aD (v:=i64 (wr ((l.length:Int) - 1))) (aG (bR [0,4,5] (fun f w=>∃ u,aAC j k r u=some J/\f 3=zS a u.length b/\aN G K (bB 9 K a b u::L) w) ?_ ?_)))))))))))
     ·rintro f h0 ⟨u,hm,c1,Z⟩
      unfold aAC at hm
      refine aB (aV (bG c1 (bG c0 (aI (v:=zS a1 g.length c2) (bG m (aA (cQ dL rfl y rfl rfl rfl V) (aA (bX (t:=0) fF Z b8 rfl rfl) ?_)))))));obtain ⟨h1,a0,hm⟩:=aC hm
      have e9:=fC Z (i:=0) rfl a0
      refine aA (gE dL rfl e9 rfl rfl rfl a0) ?_;obtain ⟨c3,c4,hm⟩:=aC hm
      exact mU (i:=0) (t:=0) (ns:=[str k]) (e':=(k:bK)) sizeOf9 Z rfl (zR _) rfl rfl rfl a0 c4 rfl rfl (dU rfl) rfl (fun cs h=>by cases h;rfl) (fun f0 (f1:aN G K (bB 9 K a b c3::L) f0)=>(cC (bM (aB ⟨aU,c3,a,b,hm,(Eq.trans c1 (congrArg (fun n=>zS a n b) (cH c4))),f1⟩))))
     obtain ⟨h2,f2,ho⟩:=aC hm
     refine dN [0,4,5] f2 (fun a2 a3 f w=>f 3=zS a a2.length b/\f 6=i64 a3/\aN G K (bB 9 K a b a2::L) w) cA ?_
     ·rintro a2 a3 h4 f h5 hm hr ⟨a5,x,a6⟩
      unfold aAD at hm
      refine aO (aL (bG x (bG c0 (aA (kA rfl rfl) (aG ?_)))))
      rcases aH hm with ⟨c5,hm⟩|⟨c5,hm⟩
      ·refine aM c5 rfl (aW (aB (aO (bZ (aV (bG a5 (bG x (bG a5 (bG x (aA (fY rfl rfl) ?_))))))))));obtain ⟨c6,a7,hm⟩:=aC hm
       have c7:=fC a6 (i:=0) rfl a7
       refine aA (gE dL rfl c7 rfl rfl rfl a7) (aA (aDa (t:=0) fF a6 (i:=0) rfl a7 rfl rfl rfl) ?_);obtain ⟨h6,c8,hm⟩:=aC hm
       refine aA (gE dL rfl c7 rfl rfl rfl c8) ?_;obtain ⟨f3,d0,hm⟩:=aC hm
       exact mU (i:=0) (t:=0) (ns:=[str c6]) (e':=(c6:bK)) sizeOf9 a6 rfl (zR _) rfl rfl rfl c8 d0 rfl rfl (dU rfl) rfl (fun cs h=>by cases h;rfl) (fun f4 (f5:aN G K (bB 9 K a b f3::L) f4)=>(cC (bM (aB (aV (bG x (aA (fY rfl rfl) (aD (v:=i64 (wr (a3 - 1))) (aG ⟨_,(zI hm).symm,aU,(Eq.trans a5 (congrArg (fun n=>zS a n b) (cH d0))),rfl,f5⟩)))))))))
      ·exact cA
    obtain ⟨h7,f6,ho⟩:=aC hm
    refine dS [0,3,4] f6 (fun a9 f w=>f 5=i64 a9/\aN G K (bB 9 K d e c::L) w) cA ?_
    ·rintro a9 f7 f h8 hm hr ⟨h9,i0⟩
     unfold vG at hm
     exact aO (aO (cW [0,3,4,5] (fun f w=>∃ d1,vF a9 d1=some f7/\f 35=zB d1/\aN G K (bB 9 K d e c::L) w) cA cA))
  ·exact cA
theorem aHR {a:Edge} {c:Nat} {b:Edge} {d:Nat} {R:Bool} (hm:aDK a b=some R) (e:aN G K (L) w) (g:iR K a1 c [i64 a.F,i64 a.B,i64 a.To]) (h:iR K a4 d [i64 b.F,i64 b.B,i64 b.To]):
  Calls prog 114 ([eJ a1 c,eJ a4 d]:List Value).toArray w (eR fun v w'=>v=zB R/\aN G K (L) w'):=by
 exact cA
theorem aNY {j:(List Edge)} {e:Edge} {R:(List Edge)} (hm:aHA j e=some R) (hs:aN G K (bB 130 K a1 c2 j::L) w):
  Calls prog 112 ([zS a1 j.length c2,zA #[i64 e.F,i64 e.B,i64 e.To]]:List Value).toArray w (eR fun v w'=>∃ b2 b4,v=zS b2 R.length b4/\aN G K (bB 130 K b2 b4 R::L) w'):=by
 let a:=[i64 e.F,i64 e.B,i64 e.To]
 let o:=bB 130 K a1 c2 j
 refine aQ func112 rfl (by kernel_rfl) (by show (2:Nat)<=57;decide) ?_;unfold aHA at hm
 refine aL (dQ (v:=zA #[i64 e.F,i64 e.B,i64 e.To]) (vs:=a) hs rfl rfl (fun k w4 g2=>(aD (v:=zS none 0 0) (aG (aL (aI (v:=zS a1 j.length c2) (aA (bQ (len:=j.length) iI rfl) (aD (v:=i64 (j.length:Int)) (aG (aO (bR [0,3] (fun f w=>∃ p,aCI j e p=some R/\f 5=i64 p/\aN G K (box k 130 a::o::L) w) ?_ ?_)))))))))))
 ·rintro f w8 ⟨p,hm,J,b⟩
  unfold aCI at hm
  refine aB (aO (aO (cW [0,3,5] (fun f w=>∃ a0,zF j e p a0=some R/\f 30=zB a0/\aN G K (box k 130 a::o::L) w) ?_ ?_)))
  ·rintro f g4 ⟨a0,hm,c7,c8⟩
   unfold zF at hm
   refine aB ?_
   rcases aH hm with ⟨b5,hm⟩|⟨b5,hm⟩
   ·exact cA
   ·refine aJ b5 c7 (aW (aB (aL (aI (v:=zS a1 j.length c2) (aA (iA (vs:=[]) (cs:=[i64 0,i64 0,i64 0]) aSk rfl (by kernel_rfl)) (eL (Kt:=K) (xs:=([⟨0,0,0⟩]:List Edge)) (cs:=[i64 0,i64 0,i64 0]) (vs:=[(0,zA #[i64 0,i64 0,i64 0])]) iI aGn rfl rfl c8 rfl (by kernel_rfl) rfl rfl rfl ⟨rfl,trivial⟩ (fun c9 d0 (d1:aN G K (bB 130 K c9 1 ([⟨0,0,0⟩]:List Edge)::box k 130 a::o::L) d0)=>?_)))))));obtain ⟨u,d2,hm⟩:=aC hm
    refine lL (i:=1) iI underlying58 aGn rfl rfl d1 rfl (zR _) (zR _) d2 rfl rfl rfl rfl (fun _ h=>h) (fun c d d3 (g5:aN G K (box k 130 a::bB 130 K c d u::L) d3)=>(aD (v:=zS c u.length d) (aG (aO (aL (aI (v:=zS c u.length d) (aA (bQ (len:=u.length) iI rfl) (aA (fY rfl rfl) (aD (v:=i64 (wr ((u.length:Int) - 1))) (aG (bR [3,5] (fun f w=>∃ V,aCG e p V=some R/\f 0=zS c V.length d/\aN G K (box k 130 a::bB 130 K c d V::L) w) ?_ ?_)))))))))))
    ·rintro f g6 ⟨V,hm,b6,a2⟩
     unfold aCG at hm
     refine aB (aL (bG b6 (bG J (aA (eH (us:=a) tI a2 (i:=0) rfl rfl rfl rfl) ?_))));obtain ⟨g7,a3,hm⟩:=aC hm
     have d4:=fC a2 (i:=1) rfl a3
     refine aA (gE iI rfl d4 rfl rfl rfl a3) ?_;obtain ⟨a4,b7,hm⟩:=aC hm
     refine mU (i:=1) (t:=0) (ns:=a) (e':=(⟨e.F,e.B,e.To⟩:Edge)) sizeOf130 a2 rfl (zR _) rfl rfl rfl a3 b7 rfl rfl (dU rfl) rfl (fun cs h=>by cases h;rfl) (fun d5 (d6:aN G K (box k 130 a::bB 130 K c d a4::L) d5)=>(aG (aL (bG (v:=zS c a4.length d) (Eq.trans b6 (congrArg (fun n=>zS c n d) (cH b7))) (aD (v:=zS c a4.length d) (aG ?_))))));obtain rfl:=zI hm
     exact aX (aP results112 rfl ⟨c,d,rfl,(aN.arr 1 [] d6 rfl)⟩)
    obtain ⟨g8,d8,ho⟩:=aC hm
    refine dN [3,5] d8 (fun a5 a6 f w=>f 0=zS c a5.length d/\f 6=i64 a6/\aN G K (box k 130 a::bB 130 K c d a5::L) w) cA ?_
    ·rintro a5 a6 g9 f h0 hm hr ⟨a7,Z,a8⟩
     unfold aCH at hm
     refine aO (aL (bG Z (bG J (aA (kA rfl rfl) (aG ?_)))))
     rcases aH hm with ⟨b8,hm⟩|⟨b8,hm⟩
     ·refine aM b8 rfl (aW (aB (aO (bZ (aV (bG a7 (bG Z (bG a7 (bG Z (aA (fY rfl rfl) ?_))))))))));obtain ⟨l,a9,hm⟩:=aC hm
      have b9:=fC a8 (i:=1) rfl a9
      refine aA (gE iI rfl b9 rfl rfl rfl a9) (aA (aHh (t:=0) (vs:=[i64 l.F,i64 l.B,i64 l.To]) tI a8 (i:=1) rfl a9 rfl rfl rfl rfl) ?_);obtain ⟨h1,c0,hm⟩:=aC hm
      refine aA (gE iI rfl b9 rfl rfl rfl c0) ?_;obtain ⟨d9,c1,hm⟩:=aC hm
      exact mU (i:=1) (t:=0) (ns:=[i64 l.F,i64 l.B,i64 l.To]) (e':=(⟨l.F,l.B,l.To⟩:Edge)) sizeOf130 a8 rfl (zR _) rfl rfl rfl c0 c1 rfl rfl (dU rfl) rfl (fun cs h=>by cases h;rfl) (fun e0 (e1:aN G K (box k 130 a::bB 130 K c d d9::L) e0)=>(cC (bM (aB (aV (bG Z (aA (fY rfl rfl) (aD (v:=i64 (wr (a6 - 1))) (aG ⟨_,(zI hm).symm,aU,(Eq.trans a7 (congrArg (fun n=>zS c n d) (cH c1))),rfl,e1⟩)))))))))
     ·exact cA
  refine dB (C:=fun w'=>aN G K (box k 130 a::o::L) w') cB (by kernel_rfl) (aN.mono b (dW.drew _)) (aY (fun _ b=>bJ J) (aY (fun _ b=>kA rfl rfl) (aY (fun _ b=>bJ (v:=zB (decide (0 < p))) rfl) ?_)))
  rcases aH hm with ⟨m,hm⟩|⟨m,hm⟩
  ·refine bW (g:=22) rfl rfl m (aY (fun _ b=>bJ (v:=zS a1 j.length c2) rfl) (bW (g:=22) rfl rfl m (aY (fun _ b=>bJ J) (bW (g:=22) rfl rfl m (aY (fun _ b=>fY rfl rfl) (bW (g:=22) rfl rfl m ?_))))));obtain ⟨q,b0,hm⟩:=aC hm
   have e2:=fC b (i:=1) rfl b0
   exact aY (fun _ b=>gE iI rfl e2 rfl rfl rfl b0) (bW (g:=22) rfl rfl m (aY (fun _ b=>aHh (t:=0) (vs:=[i64 q.F,i64 q.B,i64 q.To]) tI b (i:=1) rfl b0 rfl rfl rfl rfl) (bW (g:=22) rfl rfl m (aY (fun _ b=>eH (us:=a) tI b (i:=0) rfl rfl rfl rfl) (bW (g:=22) rfl rfl m (aY (fun _ b=>R_eqlG (eq_130 (x:=q) (y:=e)) rfl rfl) (aY (fun _ b=>bI (v:=zB (decide ((q:Edge)=e))) m rfl rfl) (dH (fun h2 e3=>(aB ⟨aU,decide ((q:Edge)=e),hm,rfl,e3⟩))))))))))
  ·exact cA
 obtain ⟨h3,e4,ho⟩:=aC hm
 refine dS [0,3] e4 (fun z f w=>f 5=i64 z/\aN G K (box k 130 a::o::L) w) cA ?_
 ·rintro z e5 f h4 hm hr ⟨c3,c4⟩
  unfold zJ at hm
  refine aO (aO (cW [0,3,5] (fun f w=>∃ c5,zH z c5=some e5/\f 17=zB c5/\aN G K (box k 130 a::o::L) w) cA (aV (bG c3 (aA (kA rfl rfl) (aI (v:=zB (decide (0 < z))) ?_))))))
  rcases aH hm with ⟨r,hm⟩|⟨r,hm⟩
  ·refine bH r rfl rfl (aI (v:=zS a1 j.length c2) (bH r rfl rfl (bG c3 (bH r rfl rfl (aA (fY rfl rfl) (bH r rfl rfl ?_))))));obtain ⟨h5,b1,hm⟩:=aC hm
   have e6:=fC c4 (i:=1) rfl b1
   refine aA (gE iI rfl e6 rfl rfl rfl b1) (bH r rfl rfl ?_);obtain ⟨h6,e8,e9,f0,f1⟩:=aN.lendBp c4 .head
   obtain ⟨h7,f2,f3,f4,f5⟩:=aN.lendSp f0 e8 .head
   obtain ⟨h8,f6,f7⟩:=cE.el (sz:=3) rfl f3 b1
   cases f7
   obtain ⟨h9,f8,hm⟩:=aC hm
   refine aT (vs:=[eJ (some ⟨k,0,none⟩) 0,eJ a1 ((wr (z - 1)).toNat * 3+0)]) call114 rfl (aHR f8 f4 (e9.mono f2) f6) ?_
   rintro _ i0 ⟨rfl,f9⟩
   have g0:=f5 _ _ f9
   have i1:=f1 _ _ g0
   exact cA
  ·exact cA
theorem aNc {d e:Int} {texts:(List bK)} {edges:(List Edge)} {R:eP} (hm:aFM d e texts edges=some R) (hs:aN G K (L) w) (r:cE K a1 c2 texts) (y:cE K a4 c5 edges):
  Calls prog 76 ([i64 d,i64 e,zS a1 texts.length c2,zS a4 edges.length c5]:List Value).toArray w (eR fun v w'=>∃ z J V Z,v=zA (zCa R z J V Z)/\aN G K (bB 9 K z J R.L::bB 130 K V Z R.E::L) w'):=by
 let h:=zG
 refine aQ func76 rfl (by kernel_rfl) (by show (4:Nat)<=43;decide) ?_;unfold aFM at hm
 refine aL (cR (vs:=h) zeroValue60 hs rfl (fun l w8 b3=>(aG (aL (aI (v:=i64 d) (aI (v:=i64 e) (aI (v:=zS a1 texts.length c2) ?_)))))));obtain ⟨a,b4,hm⟩:=aC hm
 refine aT (vs:=[zS a1 texts.length c2]) call110 rfl (aNb b4 b3 r) ?_
 rintro _ e7 ⟨b,c,rfl,b5⟩
 refine eL (Kt:=K) (xs:=([]:List Edge)) (cs:=[]) (vs:=[]) iI aGn rfl rfl b5 rfl (by kernel_rfl) rfl rfl rfl trivial (fun j b6 (b8:aN G K (bB 130 K j 0 ([]:List Edge)::bB 9 K b c a::box l 60 h::L) b6)=>(aA (iA (vs:=[(0,i64 d),(1,i64 e),(2,zS b a.length c),(3,zS j ([]:List Edge).length 0)]) (cs:=[i64 d,i64 e,zS b a.length c,zS j ([]:List Edge).length 0]) bs_60 rfl (by kernel_rfl)) (cR (vs:=h) zeroValue60 b8 rfl (fun p e8 b9=>(cO (i:=0) (ns:=[i64 d,i64 e,zS b a.length c,zS j ([]:List Edge).length 0]) (us:=[i64 d,i64 e,zS b a.length c,zS j ([]:List Edge).length 0]) sizeOf60 b9 rfl rfl rfl rfl rfl (dU rfl) rfl rfl (fun c0 (e9:aN G K (box p 60 [i64 d,i64 e,zS b a.length c,zS j ([]:List Edge).length 0]::bB 130 K j 0 ([]:List Edge)::bB 9 K b c a::box l 60 h::L) c0)=>(aG (aO (aL (aD (v:=i64 0) (aG (bR [8,9] (fun f w=>∃ u a0 a2,aDs d e a u=some R/\aN G K (bB 130 K a0 a2 u::box p 60 [i64 d,i64 e,zS b a.length c,zS a0 u.length a2]::bB 9 K b c a::box l 60 h::L) w) cA ?_))))))))))))
 obtain ⟨f0,c1,ho⟩:=aC hm
 refine dN [2,3,8,9] c1 (fun m a3 f w=>∃ n o,f 10=i64 a3/\aN G K (box p 60 [i64 d,i64 e,zS b a.length c,zS n m.length o]::bB 130 K n o m::bB 9 K b c a::box l 60 h::L) w) cA ?_
 ·rintro m a3 f1 f f2 hm hr ⟨n,o,a5,a6⟩
  unfold vH at hm
  refine aO (aL (bG a5 (aI (v:=zS a4 edges.length c5) (aA (bQ (len:=edges.length) iI rfl) (aA (cM rfl rfl) (aG ?_))))))
  rcases aH hm with ⟨a7,hm⟩|⟨a7,hm⟩
  ·refine aM a7 rfl (aW (aB (aO (bZ (aL (aI (v:=zS a4 edges.length c5) (bG a5 ?_)))))));obtain ⟨g,a8,hm⟩:=aC hm
   refine aA (cQ iI rfl y rfl rfl rfl a8) ?_;obtain ⟨f3,c3,c4⟩:=cE.el (sz:=3) rfl y a8
   cases c4
   refine aA (eK (t:=0) (vs:=[i64 g.F,i64 g.B,i64 g.To]) tI a6 c3 rfl rfl rfl) (cR (vs:=[i64 0,i64 0,i64 0]) zeroValue130 a6 rfl (fun c6 f4 c7=>(cO (i:=0) (ns:=[i64 g.F,i64 g.B,i64 g.To]) (us:=[i64 g.F,i64 g.B,i64 g.To]) sizeOf130 c7 rfl rfl rfl rfl rfl (dU rfl) rfl rfl (fun c8 (c9:aN G K (box c6 130 [i64 g.F,i64 g.B,i64 g.To]::box p 60 [i64 d,i64 e,zS b a.length c,zS n m.length o]::bB 130 K n o m::bB 9 K b c a::box l 60 h::L) c8)=>(aG (aO ?_))))))
   obtain ⟨f5,x,d0,d1,d2⟩:=aN.lendBp c9 .head
   obtain ⟨d3,q,d4,a9,d5⟩:=aN.lendBp d1 .head
   refine jJ (C:=fun w'=>∃ L',aN G d3 L' w') [(0,0),(1,0),(2,0),(3,0),(4,0),(5,0),(6,0),(7,1),(8,0),(9,2)] cB (by kernel_rfl) (fun _ hg=>⟨_,aN.mono a9 hg⟩) (fun f6 d6=>?_)
   have k:=aN.mono a9 d6
   refine dV rfl (fun _ _=>bA (t':=2) rD rfl rfl) (dV rfl (fun _ ⟨_,k⟩=>bX (t:=2) jG k d4 rfl rfl) (dV rfl (fun _ _=>bJ (v:=zS a1 texts.length c2) rfl) (dV rfl (fun _ _=>bA (t':=1) oL rfl rfl) (dV rfl (fun _ ⟨_,k⟩=>bX (t:=1) dC k (d0.mono q) rfl rfl) ?_))));obtain ⟨d7,b0,hm⟩:=aC hm
   refine dV rfl (fun _ _=>cQ dL rfl (r.mono (zL x q)) rfl rfl rfl b0) ?_;obtain ⟨f7,d8,d9⟩:=cE.el (sz:=1) rfl r b0
   cases d9
   refine dV rfl (fun _ ⟨_,k⟩=>bX (t:=0) fF k (d8.mono (zL x q)) rfl rfl) (pP rfl ?_);obtain ⟨f8,f9,e0,e1,e2⟩:=aN.lendSp k (zL x q) zt1
   obtain ⟨g0,e3,hm⟩:=aC hm
   refine aT (vs:=[zS b a.length c,str d7]) call111 rfl (aHQ e3 e1 e0) ?_
   rintro _ g1 ⟨rfl,e4⟩
   have b1:=e2 _ _ e4
   refine cC (aB ⟨⟨_,b1⟩,?_⟩)
   refine dV rfl (fun _ _=>bA (t':=1) oL rfl rfl) ?_
   have e5:=d5 _ _ b1
   have g2:=d2 _ _ e5
   exact cA
  ·exact cA
theorem aNd {s_:bK} {R:Int} (hm:aFN s_=some R) (c:aN G K (L) w):
  Calls prog 242 ([str s_]:List Value).toArray w (eR fun v w'=>v=i64 R/\aN G K (L) w'):=by
 refine aQ func242 rfl (by kernel_rfl) (by show (1:Nat)<=17;decide) ?_;unfold aFN at hm
 refine aL (aD (v:=i64 0) (aG (aO (aL (aD (v:=i64 0) (aG (bR [0] (fun f w=>aDt s_=some R/\aN G K (L) w) cA ?_)))))));obtain ⟨d,a,ho⟩:=aC hm
 exact dS [0] a (fun b f w=>f 3=i64 b/\aN G K (L) w) cA cA
theorem aLM {s_:bK} {by_:UInt8} {R:(List bK)} (hm:aEl s_ by_=some R) (u:aN G K (L) w):
  Calls prog 243 ([str s_,Value.int .u8 (by_.toNat:Int)]:List Value).toArray w (eR fun v w'=>∃ k l,v=zS k R.length l/\aN G K (bB 9 K k l R::L) w'):=by
 refine aQ func243 rfl (by kernel_rfl) (by show (2:Nat)<=35;decide) ?_;unfold aEl at hm
 refine aL (aD (v:=zS none 0 0) (aG (aL (eL (Kt:=K) (xs:=([]:List bK)) (cs:=[]) (vs:=[]) dL aCp rfl rfl u rfl (by kernel_rfl) rfl rfl rfl trivial (fun m x (a0:aN G K (bB 9 K m 0 ([]:List bK)::L) x)=>(aD (v:=zS m ([]:List bK).length 0) (aG (aL (aD (v:=i64 0) (aG (aO (aL (aD (v:=i64 0) (aG (bR [0] (fun f w=>∃ e n o p,wN s_ e n=some R/\f 5=zS o e.length p/\f 6=i64 n/\aN G K (bB 9 K o p e::L) w) cA ?_)))))))))))))))
 obtain ⟨a2,y,ho⟩:=aC hm
 refine mL [0,1] y (fun g q a f w=>∃ h i,f 5=zS h g.length i/\f 6=i64 q/\f 7=i64 a/\aN G K (bB 9 K h i g::L) w) cA ?_
 ·rintro g q a z f a3 hm hr ⟨h,i,a4,a6,r,a7⟩
  unfold aBY at hm
  refine aO (aL (bG r (aI (v:=str s_) (aA (gS runUnderlying9 rfl) (aA (cM rfl rfl) (aG ?_))))))
  rcases aH hm with ⟨t,hm⟩|⟨t,hm⟩
  ·refine aM t rfl (aW (aB (aO (bR [0,1,7] (fun f w=>∃ b j c d,sH a b j=some z/\f 5=zS c b.length d/\f 6=i64 j/\aN G K (bB 9 K c d b::L) w) ?_ ?_))))
   ·rintro f a8 ⟨b,j,c,d,hm,J,V,Z⟩
    unfold sH at hm
    exact aB (aV (bG r (aA (cD rfl rfl) (aD (v:=i64 (wr (a+1))) (aG ⟨_,(zI hm).symm,aU,c,d,J,V,rfl,Z⟩)))))
   exact cA
  ·exact cA
theorem aKJ {s_:bK} {R:(Int × Bool)} (hm:zN s_=some R) (y:aN G K (L) w):
  Calls prog 244 ([str s_]:List Value).toArray w (eR fun v w'=>v=Value.tuple #[i64 R.1,zB R.2]/\aN G K (L) w'):=by
 refine aQ func244 rfl (by kernel_rfl) (by show (1:Nat)<=62;decide) ?_;unfold zN at hm
 refine aL (aD (v:=i64 0) (aD (v:=zB false) (aG (aL (aD (v:=i64 0) (aG (aAa [0] (fun f w=>∃ c,qG s_ c=some R/\f 4=i64 c/\aN G K (L) w) ?_ ?_)))))))
 ·rintro f z ⟨c,hm,o,J⟩
  unfold qG at hm
  refine aO (aO (cW [0,4] (fun f w=>∃ e,lX s_ c e=some R/\f 36=zB e/\aN G K (L) w) ?_ ?_))
  ·rintro f V ⟨e,hm,p,Z⟩
   unfold lX at hm
   refine aB ?_
   rcases aH hm with ⟨i,hm⟩|⟨i,hm⟩
   ·exact cA
   ·refine aJ i p (aW (aB (aL (aD (v:=i64 0) (aG (aO (aL (bG o (aD (v:=i64 c) (aG (bR [4] (fun f w=>∃ g,tP c g=some R/\f 5=i64 g/\aN G K (L) w) ?_ ?_)))))))))))
    ·rintro f a0 ⟨g,hm,a1,a2⟩
     unfold tP at hm
     exact aB (aAa [] (fun f w=>∃ j,aAG j=some R/\f 5=i64 j/\aN G K (L) w) cA cA)
    obtain ⟨a3,q,ho⟩:=aC hm
    refine dN [0,4] q (fun h i32 f w=>f 5=i64 h/\f 6=i64 i32/\aN G K (L) w) cA ?_
    ·rintro h i32 a4 f a5 hm hr ⟨r,d,t⟩
     unfold qF at hm
     refine aO (aL (bG d (aI (v:=str s_) (aA (gS runUnderlying9 rfl) (aA (cM rfl rfl) (aG ?_))))))
     rcases aH hm with ⟨k,hm⟩|⟨k,hm⟩
     ·refine aM k rfl (aW (aB (aO (bZ (aO (aL (aI (v:=str s_) (bG d ?_))))))));obtain ⟨c45,l,hm⟩:=aC hm
      refine aA (aFu runUnderlying9 rfl rfl l) ?_;obtain ⟨a6,u,hm⟩:=aC hm
      refine aT (vs:=[Value.int .u8 (c45.toNat:Int)]) call148 rfl (aGS u t) ?_
      rintro _ a7 ⟨rfl,x⟩
      refine aA (dA rfl) (aG ?_)
      rcases aH hm with ⟨m,hm⟩|⟨m,hm⟩
      ·exact cA
      ·exact aJ m rfl (aW (aB (aV (bG r (aA (R_mul rfl rfl) (aI (v:=str s_) (bG d (aA (aFu runUnderlying9 rfl rfl l) (aA (aSV (a:=c45) (b:=(48:UInt8)) rfl rfl) (aA (aST runUnderlying2 rfl ⟨_,runUnderlying5⟩) (aA (cD rfl rfl) (aD (v:=i64 (wr ((wr (10 * h))+(wr ((c45 - (48:UInt8)).toNat:Int))))) (cC (bM (aB (aV (bG d (aA (cD rfl rfl) (aD (v:=i64 (wr (i32+1))) (aG ⟨_,(zI hm).symm,aU,rfl,rfl,x⟩))))))))))))))))))))
     ·exact cA
  exact cA
 exact aO (cW [0,4] (fun f w=>∃ n,qH s_ n=some R/\f 14=zB n/\aN G K (L) w) cA cA)
theorem aKK {s_:bK} {R:((List Int) × Bool)} (hm:aFc s_=some R) (hs:aN G K (L) w):
  Calls prog 192 ([str s_]:List Value).toArray w (eR fun v w'=>∃ p q,v=Value.tuple #[zS p R.1.length q,zB R.2]/\aN G K (bB 2 K p q R.1::L) w'):=by
 refine aQ func192 rfl (by kernel_rfl) (by show (1:Nat)<=70;decide) ?_;unfold aFc at hm
 refine aL (aD (v:=zS none 0 0) (aD (v:=zB false) (aG (aL (aI (v:=str s_) ?_)))));obtain ⟨g,q2,hm⟩:=aC hm
 refine aT (vs:=[str s_]) call242 rfl (aNd q2 hs) ?_
 rintro _ w3 ⟨rfl,b5⟩
 refine aD (v:=i64 g) (aG (aO (aL (aI (v:=i64 g) (aI (v:=str s_) (aA (gS runUnderlying9 rfl) (aA (cX rfl rfl) (aG ?_))))))))
 rcases aH hm with ⟨r,hm⟩|⟨r,hm⟩
 ·exact cA
 ·refine aJ r rfl (aW (aB (aO (aO (cW [0,4] (fun f w=>∃ k,qI s_ g k=some R/\f 31=zB k/\aN G K (L) w) ?_ ?_)))))
  ·rintro f b6 ⟨k,hm,a2,a3⟩
   unfold qI at hm
   refine aB ?_
   rcases aH hm with ⟨u,hm⟩|⟨u,hm⟩
   ·exact cA
   ·refine aJ u a2 (aW (aB (aL (aI (v:=str s_) (aI (v:=i64 g) (aA (cD rfl rfl) (aI (v:=str s_) (aA (gS runUnderlying9 rfl) (aA (fY rfl rfl) ?_)))))))));obtain ⟨a4,a5,hm⟩:=aC hm
    refine aA (R_slSLH runUnderlying9 rfl rfl rfl a5) ?_;obtain ⟨a,a6,hm⟩:=aC hm
    refine aT (vs:=[str a4,Value.int .u8 44]) call243 rfl (aLM (by_:=(44:UInt8)) a6 a3) ?_
    rintro _ b7 ⟨b,c,rfl,a7⟩
    refine aD (v:=zS b a.length c) (aG (aL (eL (Kt:=K) (xs:=([]:List Int)) (cs:=[]) (vs:=[]) gF aFx rfl rfl a7 rfl (by kernel_rfl) rfl rfl rfl trivial (fun x a8 (b8:aN G K (bB 2 K x 0 ([]:List Int)::bB 9 K b c a::L) a8)=>(aD (v:=zS x ([]:List Int).length 0) (aG (aO (aL (aD (v:=i64 0) (aG (bR [] (fun f w=>∃ l y z,tQ l=some R/\f 6=zS y l.length z/\aN G K (bB 2 K y z l::L) w) cA ?_)))))))))));obtain ⟨b9,a9,ho⟩:=aC hm
    refine dN [5] a9 (fun d m f w=>∃ h j,f 6=zS h d.length j/\f 7=i64 m/\aN G K (bB 2 K h j d::bB 9 K b c a::L) w) cA ?_
    ·rintro d m b0 f c0 hm hr ⟨h,j,c1,J,n⟩
     unfold tS at hm
     refine aO (aL (bG J (aI (v:=zS b a.length c) (aA (bQ (len:=a.length) dL rfl) (aA (cM rfl rfl) (aG ?_))))))
     rcases aH hm with ⟨V,hm⟩|⟨V,hm⟩
     ·refine aM V rfl (aW (aB (aO (bZ (aL (aI (v:=zS b a.length c) (bG J ?_)))))));obtain ⟨b1,o,hm⟩:=aC hm
      have b2:=fC n (i:=1) rfl o
      refine aA (gE dL rfl b2 rfl rfl rfl o) (aA (aDa (t:=0) fF n (i:=1) rfl o rfl rfl rfl) ?_);obtain ⟨e,b3,hm⟩:=aC hm
      refine aT (vs:=[str b1]) call244 rfl (aKJ b3 n) ?_
      rintro _ c2 ⟨rfl,c3⟩
      exact aI (v:=Value.tuple #[i64 e.1,zB e.2]) (aA (dF rfl rfl) (aA (dF rfl rfl) (aD (v:=i64 e.1) (aD (v:=zB e.2) (aG (aO (aO (cW [5,6,7,8] (fun f w=>∃ Z,tR d m e Z=some b0/\f 61=zB Z/\aN G K (bB 2 K h j d::bB 9 K b c a::L) w) cA cA))))))))
     ·exact cA
  exact cA
theorem aLN {s_:bK} {R:Bool} (hm:aEm s_=some R) (a:aN G K (L) w):
  Calls prog 157 ([str s_]:List Value).toArray w (eR fun v w'=>v=zB R/\aN G K (L) w'):=by
 exact cA
theorem aLO {a:(List bK)} {R:Bool} (hm:aEn a=some R) (l:aN G K (L) w) (m:cE K a1 c2 a):
  Calls prog 113 ([zS a1 a.length c2]:List Value).toArray w (eR fun v w'=>v=zB R/\aN G K (L) w'):=by
 refine aQ func113 rfl (by kernel_rfl) (by show (1:Nat)<=53;decide) ?_;unfold aEn at hm
 refine aL (aD (v:=zB false) (aG (aO (aO (cW [0] (fun f w=>∃ b,sI a b=some R/\f 17=zB b/\aN G K (L) w) ?_ ?_)))))
 ·rintro f n ⟨b,hm,h,o⟩
  unfold sI at hm
  refine aB ?_
  rcases aH hm with ⟨d,hm⟩|⟨d,hm⟩
  ·exact cA
  ·refine aJ d h (aW (aB (aO (aL (aD (v:=i64 1) (aG (bR [] (fun f w=>aBZ=some R/\aN G K (L) w) cA ?_)))))));obtain ⟨p,i,ho⟩:=aC hm
   refine dS [0] i (fun c f w=>f 3=i64 c/\aN G K (L) w) cA ?_
   ·rintro c j f q hm hr ⟨k,r⟩
    unfold wO at hm
    refine aO (aL (bG k (aI (v:=zS a1 a.length c2) (aA (bQ (len:=a.length) dL rfl) (aA (cM rfl rfl) (aG ?_))))))
    rcases aH hm with ⟨e,hm⟩|⟨e,hm⟩
    ·exact aM e rfl (aW (aB (aO (bZ (aO (cW [0,3] (fun f w=>∃ g,pE c g=some j/\f 52=zB g/\aN G K (L) w) cA cA))))))
    ·exact cA
 exact cA
end Gv
