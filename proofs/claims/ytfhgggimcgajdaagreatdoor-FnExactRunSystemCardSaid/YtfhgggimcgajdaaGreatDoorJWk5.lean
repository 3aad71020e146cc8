/- Walks, printed by program. -/
import Derived.Test.YtfhgggimcgajdaaGreatDoorJWk3
set_option linter.all false
namespace Gv
open Gv.Hp renaming le_refl→zR
open Go.Value renaming slice→zS,bool→zB,pointer→zP,agg→zA
open Option.some renaming inj→zI
open Go Go.Proofs Go.Proofs.Tryz
set_option maxRecDepth 20000
set_option maxHeartbeats 40000000
variable {G:qG} {K:Hp} {L:List iU} {w:World} {a1 a4 a7 a10 a13 a2 a16:Option Addr} {c2 c5 c8 c11 c14 b1 c3 c17:Nat}
theorem aMp {a R:(List bS)} (hm:aHD a=some R) (O:aM G K (L) w) (u:bY K a1 c2 a):
  Calls prog 175 ([zS a1 a.length c2]:List Value).toArray w (eK fun v w'=>∃ x y,v=zS x R.length y/\aM G K (bN 224 K x y R::L) w'):=by
 refine aP func175 rfl (by kernel_rfl) (by show (1:Nat)<=23;decide) ?_;unfold aHD at hm
 refine aJ (aD (v:=zS none 0 0) (aF (aJ (aG (v:=zS a1 a.length c2) (aA (bO (len:=a.length) aOy rfl) ?_)))));obtain ⟨b,q5,hm⟩:=aC hm
 refine aLM (e:=(⟨0,0⟩:bS)) lX ez_224 rfl rfl O rfl rfl rfl q5 rfl (fun c w7 (a3:aM G K (bN 224 K c b.length b::L) w7)=>(aD (v:=zS c b.length b.length) (aF (aN (aJ (aD (v:=i64 0) (aF (bM [] (fun f w=>∃ d,aDf d=some R/\f 3=zS c d.length b.length/\aM G K (bN 224 K c b.length d::L) w) ?_ ?_))))))))
 ·rintro f b7 ⟨d,hm,a4,a5⟩
  unfold aDf at hm
  refine aB (aJ (bF a4 (aD (v:=zS c d.length b.length) (aF ?_))));obtain rfl:=zI hm
  exact aX (aO results175 rfl ⟨c,b.length,rfl,a5⟩)
 obtain ⟨b8,a8,ho⟩:=aC hm
 refine dD [0] a8 (fun g m f w=>f 3=zS c g.length b.length/\f 4=i64 m/\aM G K (bN 224 K c b.length g::L) w) ?_ ?_
 ·exact ⟨rfl,rfl,a3⟩
 ·rintro g m b9 f c0 hm hr ⟨o,j,p⟩
  unfold aAz at hm
  refine aN (aJ (bF j (aG (v:=zS a1 a.length c2) (aA (bO (len:=a.length) aOy rfl) (aA (cF rfl rfl) (aF ?_))))))
  rcases aH hm with ⟨q,hm⟩|⟨q,hm⟩
  ·refine aL q rfl (aW (aB (aN (bX (aU (bF o (bF j (aG (v:=zS a1 a.length c2) (bF j ?_)))))))));obtain ⟨k,z,hm⟩:=aC hm
   refine aA (cG aOy rfl u rfl rfl rfl z) ?_;obtain ⟨c1,a9,b0⟩:=bY.el (sz:=2) rfl u z
   cases b0
   refine aA (dZ (t:=0) (vs:=[i64 k.Kind,i64 k.Value]) ag_277 p a9 rfl rfl rfl) ?_;obtain ⟨l,b1,hm⟩:=aC hm
   refine aQ (vs:=[zA #[i64 k.Kind,i64 k.Value]]) call212 rfl (aNa b1 p) ?_
   rintro _ c3 ⟨rfl,J⟩
   obtain ⟨c4,r,hm⟩:=aC hm
   have b2:=gC J (i:=0) rfl r
   refine aA (fT lX rfl b2 rfl rfl rfl r) ?_;obtain ⟨b3,V,hm⟩:=aC hm
   exact oZ (i:=0) (t:=0) (ns:=[i64 l.Kind,i64 l.Value]) (e':=(⟨l.Kind,l.Value⟩:bS)) sizeOf224 J rfl (Hp.le_refl _) rfl rfl rfl r V rfl rfl (gJ rfl) rfl (fun cs h=>by cases h;rfl) (fun b4 (b5:aM G K (bN 224 K c b.length b3::L) b4)=>(cW (bH (aB (aU (bF j (aA (cA rfl rfl) (aD (v:=i64 (wr (m+1))) (aF ⟨_,(zI hm).symm,aT,(Eq.trans o (congrArg (fun n=>zS c n b.length) (cE V))),rfl,b5⟩)))))))))
  ·refine aI q rfl (cD (bA (bA ?_)))
   have b6:=hr _ (zI hm).symm
   subst b6
   have hm:(aDf g)=some R:=ho
   clear hr ho
   exact bR (aB ⟨aT,g,hm,o,p⟩)
theorem aLe {a R:(List (List bS))} (hm:aFZ a=some R) (hs:aM G K (L) w) (y:bY K a1 c2 a):
  Calls prog 140 ([zS a1 a.length c2]:List Value).toArray w (eK fun v w'=>∃ z J p,v=zS z R.length J/\List.length p=List.length R/\aM G K (bN 190 K z J (bK p R)::rows [224] p R::L) w'):=by
 refine aP func140 rfl (by kernel_rfl) (by show (1:Nat)<=23;decide) ?_;unfold aFZ at hm
 refine aJ (aD (v:=zS none 0 0) (aF (aJ (aG (v:=zS a1 a.length c2) (aA (bO (len:=a.length) aJU rfl) ?_)))));obtain ⟨b,V,hm⟩:=aC hm
 refine aOs (tys:=[224]) (hd:=((none,0):Dp.Hd (List bS))) lE ez_190 rfl rfl hs rfl rfl rfl V rfl (pcs_nil _) ?_
 intro c w7 (a7:aM G K (bN 190 K c b.length (bK (List.replicate (a.length:Int).toNat ((none,0):Dp.Hd (List bS))) b)::rows [224] (List.replicate (a.length:Int).toNat ((none,0):Dp.Hd (List bS))) b::L) w7)
 refine aD (v:=zS c b.length b.length) (aF (aN (aJ (aD (v:=i64 0) (aF (bM [] (fun f w=>∃ e h,aBK e=some R/\f 3=zS c e.length b.length/\List.length h=List.length e/\aM G K (bN 190 K c b.length (bK h e)::rows [224] h e::L) w) ?_ ?_))))))
 ·rintro f c6 ⟨e,h,hm,a8,a9,b0⟩
  unfold aBK at hm
  refine aB (aJ (bF a8 (aD (v:=zS c e.length b.length) (aF ?_))));obtain rfl:=zI hm
  exact aX (aO results140 rfl ⟨c,b.length,h,rfl,a9,b0⟩)
 obtain ⟨c7,b2,ho⟩:=aC hm
 refine dD [0] b2 (fun g i32 f w=>∃ d,f 3=zS c g.length b.length/\f 4=i64 i32/\List.length d=List.length g/\aM G K (bN 190 K c b.length (bK d g)::rows [224] d g::L) w) ?_ ?_
 ·exact ⟨(List.replicate (a.length:Int).toNat ((none,0):Dp.Hd (List bS))),rfl,rfl,(aFd (hd:=((none,0):Dp.Hd (List bS))) V).2.1,a7⟩
 ·rintro g i32 c8 f c9 hm hr ⟨d,q,m,j,r⟩
  unfold wK at hm
  refine aN (aJ (bF m (aG (v:=zS a1 a.length c2) (aA (bO (len:=a.length) aJU rfl) (aA (cF rfl rfl) (aF ?_))))))
  rcases aH hm with ⟨u,hm⟩|⟨u,hm⟩
  ·refine aL u rfl (aW (aB (aN (bX (aU (bF q (bF m (aG (v:=zS a1 a.length c2) (bF m ?_)))))))));obtain ⟨b3,O,hm⟩:=aC hm
   refine aA (cG aJU rfl y rfl rfl rfl O) ?_;obtain ⟨d0,b4,b5⟩:=bY.el (sz:=1) rfl y O
   obtain ⟨b6,b7,rfl,b8⟩:=b5
   refine aA (cC (t:=0) sc_226 r b4 rfl rfl) ?_;obtain ⟨b9,c0,hm⟩:=aC hm
   refine aQ (vs:=[zS b6 b3.length b7]) call175 rfl (aMp c0 r b8) ?_
   rintro _ d1 ⟨k,l,rfl,a0⟩
   obtain ⟨d2,o,hm⟩:=aC hm
   obtain ⟨⟨d3,d4⟩,a2⟩:=aCJ j o
   have c1:=gC a0 (i:=1) rfl (kK j o a2)
   refine aA (fT lE rfl c1 rfl rfl rfl o) ?_;obtain ⟨a3,x,hm⟩:=aC hm
   refine aJR (i:=0) (tys:=[224]) (hd':=(k,l)) (e':=b9) (hds:=d) sizeOf190 a0 j rfl rfl rfl rfl rfl o a2 x rfl ?_
   intro c3 (c4:aM G K (bN 190 K c b.length (bK (List.set d i32.toNat (k,l)) a3)::rows [224] (List.set d i32.toNat (k,l)) a3::L) c3)
   exact cW (bH (aB (aU (bF m (aA (cA rfl rfl) (aD (v:=i64 (wr (i32+1))) (aF ⟨_,(zI hm).symm,aT,(List.set d i32.toNat (k,l)),(Eq.trans q (congrArg (fun n=>zS c n b.length) (cE x))),rfl,(aCQ (hd:=((k,l):Dp.Hd (List bS))) j x),c4⟩)))))))
  ·refine aI u rfl (cD (bA (bA ?_)))
   have c5:=hr _ (zI hm).symm
   subst c5
   have hm:(aBK g)=some R:=ho
   clear hr ho
   exact bR (aB ⟨aT,g,d,hm,q,j,r⟩)
theorem aNb {a R:Part} (hm:aJb a=some R) (z:aM G K (L) w) (J:bY K a1 c2 a.Arguments):
  Calls prog 104 ([zA #[i64 a.Kind,i64 a.Number,bE a.Name,zS a1 a.Arguments.length c2]]:List Value).toArray w (eK fun v w'=>∃ n o m,v=zA #[i64 R.Kind,i64 R.Number,bE R.Name,zS n R.Arguments.length o]/\List.length m=List.length R.Arguments/\aM G K (bN 190 K n o (bK m R.Arguments)::rows [224] m R.Arguments::L) w'):=by
 let e:=[i64 a.Kind,i64 a.Number,bE a.Name,zS a1 a.Arguments.length c2]
 let g:=[i64 0,i64 0,bE ([]:bJ),zS none 0 0]
 let p:=[i64 a.Kind,i64 a.Number,bE ([]:bJ),zS none 0 0]
 refine aP func104 rfl (by kernel_rfl) (by show (1:Nat)<=18;decide) ?_;unfold aJb at hm
 refine aJ (dM (v:=zA #[i64 a.Kind,i64 a.Number,bE a.Name,zS a1 a.Arguments.length c2]) (vs:=e) z rfl rfl (fun h w5 V=>(eA (vs:=g) zeroValue152 V rfl (fun j w8 O=>(aF (aJ (eA (vs:=g) zeroValue152 O rfl (fun k b2 q=>(aF (aJ (aA (bC (t':=0) fa_157_0 rfl rfl) (aA (bQ dC q (i:=2) rfl rfl rfl) (aA (bC (t':=0) eY rfl rfl) (eD (i:=0) (ns:=[i64 a.Kind]) (us:=[i64 a.Kind,i64 0,bE ([]:bJ),zS none 0 0]) sizeOf2 q rfl rfl rfl rfl rfl (gJ rfl) rfl rfl (fun a0 (r:aM G K (box k 152 [i64 a.Kind,i64 0,bE ([]:bJ),zS none 0 0]::box j 152 g::box h 157 e::L) a0)=>(aF (aJ (aA (bC (t':=1) fa_157_1 rfl rfl) (aA (bQ dC r (i:=2) rfl rfl rfl) (aA (bC (t':=1) jH rfl rfl) (eD (i:=0) (ns:=[i64 a.Number]) (us:=p) sizeOf2 r rfl rfl rfl rfl rfl (gJ rfl) rfl rfl (fun a2 (t:aM G K (box k 152 p::box j 152 g::box h 157 e::L) a2)=>(aF ?_)))))))))))))))))))))))
 refine aJ (aA (bC (t':=2) aPB rfl rfl) (aA (bQ fA t (i:=2) rfl rfl rfl) (aA (bC (t':=2) lD rfl rfl) (eD (i:=0) (ns:=[bE a.Name]) (us:=[i64 a.Kind,i64 a.Number,bE a.Name,zS none 0 0]) sizeOf9 t rfl rfl rfl rfl rfl (gJ rfl) rfl rfl (fun a3 (u:aM G K (box k 152 [i64 a.Kind,i64 a.Number,bE a.Name,zS none 0 0]::box j 152 g::box h 157 e::L) a3)=>(aF (aJ (aA (bC (t':=3) aPC rfl rfl) (aA (bQ sc_155 u (i:=2) rfl rfl rfl) ?_)))))))))
 obtain ⟨b,a4,hm⟩:=aC hm
 refine aQ (vs:=[zS a1 a.Arguments.length c2]) call140 rfl (aLe a4 u J) ?_
 rintro _ b3 ⟨c,d,l,rfl,a5,a6⟩
 refine aA (bC (t':=3) jI rfl rfl) (eD (i:=2) (ns:=[zS c b.length d]) (us:=[i64 a.Kind,i64 a.Number,bE a.Name,zS c b.length d]) sizeOf150 a6 rfl rfl rfl rfl rfl (gJ rfl) rfl rfl (fun a7 (x:aM G K (bN 190 K c d (bK l b)::rows [224] l b::box k 152 [i64 a.Kind,i64 a.Number,bE a.Name,zS c b.length d]::box j 152 g::box h 157 e::L) a7)=>(aF (aJ (aA (fQ (us:=[i64 a.Kind,i64 a.Number,bE a.Name,zS c b.length d]) yD x (i:=2) rfl rfl rfl rfl) (eD (i:=3) (ns:=[i64 a.Kind,i64 a.Number,bE a.Name,zS c b.length d]) (us:=[i64 a.Kind,i64 a.Number,bE a.Name,zS c b.length d]) sizeOf152 x rfl rfl rfl rfl rfl (gJ rfl) rfl rfl (fun a8 (y:aM G K (bN 190 K c d (bK l b)::rows [224] l b::box k 152 [i64 a.Kind,i64 a.Number,bE a.Name,zS c b.length d]::box j 152 [i64 a.Kind,i64 a.Number,bE a.Name,zS c b.length d]::box h 157 e::L) a8)=>(aF ?_))))))))
 obtain rfl:=zI hm
 exact aX (aEs results104 (aBY (vs:=[i64 a.Kind,i64 a.Number,bE a.Name,zS c b.length d]) rfl yD y (i:=3) rfl rfl rfl) ⟨c,d,l,rfl,a5,(aM.arr 5 [0,1] y rfl)⟩)
theorem aMq {a R:(List Part)} (hm:aHE a=some R) (hs:aM G K (L) w) (V:bY K a1 c2 a):
  Calls prog 78 ([zS a1 a.length c2]:List Value).toArray w (eK fun v w'=>∃ O a0 u,v=zS O R.length a0/\List.length u=List.length R/\aM G K (bN 152 K O a0 (bK u R)::rows [190,224] u R::L) w'):=by
 refine aP func78 rfl (by kernel_rfl) (by show (1:Nat)<=23;decide) ?_;unfold aHE at hm
 refine aJ (aD (v:=zS none 0 0) (aF (aJ (aG (v:=zS a1 a.length c2) (aA (bO (len:=a.length) aNI rfl) ?_)))));obtain ⟨b,q5,hm⟩:=aC hm
 refine aOs (tys:=[190,224]) (hd:=(((none,0),[]):Dp.Hd Part)) iH ez_152 rfl rfl hs rfl rfl rfl q5 rfl (aOw _) ?_
 intro d w7 (b3:aM G K (bN 152 K d b.length (bK (List.replicate (a.length:Int).toNat (((none,0),[]):Dp.Hd Part)) b)::rows [190,224] (List.replicate (a.length:Int).toNat (((none,0),[]):Dp.Hd Part)) b::L) w7)
 refine aD (v:=zS d b.length b.length) (aF (aN (aJ (aD (v:=i64 0) (aF (bM [] (fun f w=>∃ j m,aDg j=some R/\f 3=zS d j.length b.length/\List.length m=List.length j/\aM G K (bN 152 K d b.length (bK m j)::rows [190,224] m j::L) w) ?_ ?_))))))
 ·rintro f d1 ⟨j,m,hm,b4,b5,b6⟩
  unfold aDg at hm
  refine aB (aJ (bF b4 (aD (v:=zS d j.length b.length) (aF ?_))));obtain rfl:=zI hm
  exact aX (aO results78 rfl ⟨d,b.length,m,rfl,b5,b6⟩)
 obtain ⟨d2,b8,ho⟩:=aC hm
 refine dD [0] b8 (fun e i32 f w=>∃ c,f 3=zS d e.length b.length/\f 4=i64 i32/\List.length c=List.length e/\aM G K (bN 152 K d b.length (bK c e)::rows [190,224] c e::L) w) ?_ ?_
 ·exact ⟨(List.replicate (a.length:Int).toNat (((none,0),[]):Dp.Hd Part)),rfl,rfl,(aFd (hd:=(((none,0),[]):Dp.Hd Part)) q5).2.1,b3⟩
 ·rintro e i32 d3 f d4 hm hr ⟨c,x,q,o,y⟩
  unfold aAA at hm
  refine aN (aJ (bF q (aG (v:=zS a1 a.length c2) (aA (bO (len:=a.length) aNI rfl) (aA (cF rfl rfl) (aF ?_))))))
  rcases aH hm with ⟨z,hm⟩|⟨z,hm⟩
  ·refine aL z rfl (aW (aB (aN (bX (aU (bF x (bF q (aG (v:=zS a1 a.length c2) (bF q ?_)))))))));obtain ⟨h,a3,hm⟩:=aC hm
   refine aA (cG aNI rfl V rfl rfl rfl a3) ?_;obtain ⟨d5,b9,c0⟩:=bY.el (sz:=4) rfl V a3
   obtain ⟨a4,a5,rfl,c1⟩:=c0
   refine aA (dZ (t:=0) (vs:=[i64 h.Kind,i64 h.Number,bE h.Name,zS a4 h.Arguments.length a5]) ag_157 y b9 rfl rfl rfl) ?_;obtain ⟨p,c3,hm⟩:=aC hm
   refine aQ (vs:=[zA #[i64 h.Kind,i64 h.Number,bE h.Name,zS a4 h.Arguments.length a5]]) call104 rfl (aNb c3 y c1) ?_
   rintro _ a7 ⟨k,l,g,rfl,c4,a8⟩
   obtain ⟨d6,r,hm⟩:=aC hm
   obtain ⟨⟨⟨d7,d8⟩,d9⟩,a9⟩:=aCJ o r
   have c5:=gC a8 (i:=2) rfl (kK o r a9)
   refine aA (fT iH rfl c5 rfl rfl rfl r) ?_
   have c6:aM G K (bN 190 K k l (bK g p.Arguments)::rows [224] g p.Arguments::bN 152 K d b.length (bK c e)::rows [190,224] c e::L) a7:=a8
   have c7:aM G K (bN 190 K k l (bK g p.Arguments)::aDG [224] g p.Arguments::bN 152 K d b.length (bK c e)::rows [190,224] c e::L) a7:=aM.closeL (i:=1) c6 rfl c4
   obtain ⟨b0,J,hm⟩:=aC hm
   refine aJR (i:=0) (tys:=[190,224]) (hd':=(((k,l),g):Dp.Hd Part)) (e':=(p:Part)) (hds:=c) sizeOf152 c7 o rfl rfl rfl rfl rfl r a9 J rfl ?_
   intro c8 (c9:aM G K (bN 152 K d b.length (bK (List.set c i32.toNat ((k,l),g)) b0)::rows [190,224] (List.set c i32.toNat ((k,l),g)) b0::L) c8)
   exact cW (bH (aB (aU (bF q (aA (cA rfl rfl) (aD (v:=i64 (wr (i32+1))) (aF ⟨_,(zI hm).symm,aT,(List.set c i32.toNat ((k,l),g)),(Eq.trans x (congrArg (fun n=>zS d n b.length) (cE J))),rfl,(aCQ (hd:=(((k,l),g):Dp.Hd Part)) o J),c9⟩)))))))
  ·refine aI z rfl (cD (bA (bA ?_)))
   have d0:=hr _ (zI hm).symm
   subst d0
   have hm:(aDg e)=some R:=ho
   clear hr ho
   exact bR (aB ⟨aT,e,c,hm,x,o,y⟩)
theorem aHV {a R:Definition} (hm:aAB a=some R) (x:aM G K (L) w) (y:bY K a1 c2 a.Body):
  Calls prog 53 ([zA #[bE a.Name,i64 a.Parameters,zS a1 a.Body.length c2]]:List Value).toArray w (eK fun v w'=>∃ n o m,v=zA #[bE R.Name,i64 R.Parameters,zS n R.Body.length o]/\List.length m=List.length R.Body/\aM G K (bN 152 K n o (bK m R.Body)::rows [190,224] m R.Body::L) w'):=by
 let e:=[bE a.Name,i64 a.Parameters,zS a1 a.Body.length c2]
 let g:=[bE ([]:bJ),i64 0,zS none 0 0]
 refine aP func53 rfl (by kernel_rfl) (by show (1:Nat)<=15;decide) ?_;unfold aAB at hm
 refine aJ (dM (v:=zA #[bE a.Name,i64 a.Parameters,zS a1 a.Body.length c2]) (vs:=e) x rfl rfl (fun j w5 z=>(eA (vs:=g) zeroValue104 z rfl (fun k w8 J=>(aF (aJ (eA (vs:=g) zeroValue104 J rfl (fun l a9 p=>(aF (aJ (aA (bC (t':=0) fa_83_0 rfl rfl) (aA (bQ fA p (i:=2) rfl rfl rfl) (aA (bC (t':=0) vU rfl rfl) (eD (i:=0) (ns:=[bE a.Name]) (us:=[bE a.Name,i64 0,zS none 0 0]) sizeOf9 p rfl rfl rfl rfl rfl (gJ rfl) rfl rfl (fun V (q:aM G K (box l 104 [bE a.Name,i64 0,zS none 0 0]::box k 104 g::box j 83 e::L) V)=>(aF (aJ (aA (bC (t':=1) fa_83_1 rfl rfl) (aA (bQ dC q (i:=2) rfl rfl rfl) (aA (bC (t':=1) rE rfl rfl) (eD (i:=0) (ns:=[i64 a.Parameters]) (us:=[bE a.Name,i64 a.Parameters,zS none 0 0]) sizeOf2 q rfl rfl rfl rfl rfl (gJ rfl) rfl rfl (fun O (r:aM G K (box l 104 [bE a.Name,i64 a.Parameters,zS none 0 0]::box k 104 g::box j 83 e::L) O)=>(aF ?_)))))))))))))))))))))))
 refine aJ (aA (bC (t':=2) fa_83_2 rfl rfl) (aA (bQ sc_81 r (i:=2) rfl rfl rfl) ?_));obtain ⟨b,a0,hm⟩:=aC hm
 refine aQ (vs:=[zS a1 a.Body.length c2]) call78 rfl (aMq a0 r y) ?_
 rintro _ b0 ⟨c,d,h,rfl,a2,a3⟩
 refine aA (bC (t':=2) jJ rfl rfl) (eD (i:=2) (ns:=[zS c b.length d]) (us:=[bE a.Name,i64 a.Parameters,zS c b.length d]) sizeOf102 a3 rfl rfl rfl rfl rfl (gJ rfl) rfl rfl (fun a4 (t:aM G K (bN 152 K c d (bK h b)::rows [190,224] h b::box l 104 [bE a.Name,i64 a.Parameters,zS c b.length d]::box k 104 g::box j 83 e::L) a4)=>(aF (aJ (aA (fQ (us:=[bE a.Name,i64 a.Parameters,zS c b.length d]) aCK t (i:=2) rfl rfl rfl rfl) (eD (i:=3) (ns:=[bE a.Name,i64 a.Parameters,zS c b.length d]) (us:=[bE a.Name,i64 a.Parameters,zS c b.length d]) sizeOf104 t rfl rfl rfl rfl rfl (gJ rfl) rfl rfl (fun a5 (u:aM G K (bN 152 K c d (bK h b)::rows [190,224] h b::box l 104 [bE a.Name,i64 a.Parameters,zS c b.length d]::box k 104 [bE a.Name,i64 a.Parameters,zS c b.length d]::box j 83 e::L) a5)=>(aF ?_))))))))
 obtain rfl:=zI hm
 exact aX (aEs results53 (aBY (vs:=[bE a.Name,i64 a.Parameters,zS c b.length d]) rfl aCK u (i:=3) rfl rfl rfl) ⟨c,d,h,rfl,a2,(aM.arr 5 [0,1] u rfl)⟩)
theorem aHh {a R:(List Definition)} (hm:xI a=some R) (hs:aM G K (L) w) (V:bY K a1 c2 a):
  Calls prog 23 ([zS a1 a.length c2]:List Value).toArray w (eK fun v w'=>∃ O a0 u,v=zS O R.length a0/\List.length u=List.length R/\aM G K (bN 104 K O a0 (bK u R)::rows [152,190,224] u R::L) w'):=by
 refine aP func23 rfl (by kernel_rfl) (by show (1:Nat)<=23;decide) ?_;unfold xI at hm
 refine aJ (aD (v:=zS none 0 0) (aF (aJ (aG (v:=zS a1 a.length c2) (aA (bO (len:=a.length) aNJ rfl) ?_)))));obtain ⟨b,q5,hm⟩:=aC hm
 refine aOs (tys:=[152,190,224]) (hd:=(((none,0),[]):Dp.Hd Definition)) jO ez_104 rfl rfl hs rfl rfl rfl q5 rfl (aIx _) ?_
 intro d w7 (b3:aM G K (bN 104 K d b.length (bK (List.replicate (a.length:Int).toNat (((none,0),[]):Dp.Hd Definition)) b)::rows [152,190,224] (List.replicate (a.length:Int).toNat (((none,0),[]):Dp.Hd Definition)) b::L) w7)
 refine aD (v:=zS d b.length b.length) (aF (aN (aJ (aD (v:=i64 0) (aF (bM [] (fun f w=>∃ h m,qU h=some R/\f 3=zS d h.length b.length/\List.length m=List.length h/\aM G K (bN 104 K d b.length (bK m h)::rows [152,190,224] m h::L) w) ?_ ?_))))))
 ·rintro f d1 ⟨h,m,hm,b4,b5,b6⟩
  unfold qU at hm
  refine aB (aJ (bF b4 (aD (v:=zS d h.length b.length) (aF ?_))));obtain rfl:=zI hm
  exact aX (aO results23 rfl ⟨d,b.length,m,rfl,b5,b6⟩)
 obtain ⟨d2,b8,ho⟩:=aC hm
 refine dD [0] b8 (fun e i32 f w=>∃ c,f 3=zS d e.length b.length/\f 4=i64 i32/\List.length c=List.length e/\aM G K (bN 104 K d b.length (bK c e)::rows [152,190,224] c e::L) w) ?_ ?_
 ·exact ⟨(List.replicate (a.length:Int).toNat (((none,0),[]):Dp.Hd Definition)),rfl,rfl,(aFd (hd:=(((none,0),[]):Dp.Hd Definition)) q5).2.1,b3⟩
 ·rintro e i32 d3 f d4 hm hr ⟨c,x,q,o,y⟩
  unfold nG at hm
  refine aN (aJ (bF q (aG (v:=zS a1 a.length c2) (aA (bO (len:=a.length) aNJ rfl) (aA (cF rfl rfl) (aF ?_))))))
  rcases aH hm with ⟨z,hm⟩|⟨z,hm⟩
  ·refine aL z rfl (aW (aB (aN (bX (aU (bF x (bF q (aG (v:=zS a1 a.length c2) (bF q ?_)))))))));obtain ⟨l,a3,hm⟩:=aC hm
   refine aA (cG aNJ rfl V rfl rfl rfl a3) ?_;obtain ⟨d5,b9,c0⟩:=bY.el (sz:=3) rfl V a3
   obtain ⟨a4,a5,rfl,c1⟩:=c0
   refine aA (dZ (t:=0) (vs:=[bE l.Name,i64 l.Parameters,zS a4 l.Body.length a5]) ag_83 y b9 rfl rfl rfl) ?_;obtain ⟨p,c3,hm⟩:=aC hm
   refine aQ (vs:=[zA #[bE l.Name,i64 l.Parameters,zS a4 l.Body.length a5]]) call53 rfl (aHV c3 y c1) ?_
   rintro _ a7 ⟨j,k,g,rfl,c4,a8⟩
   obtain ⟨d6,r,hm⟩:=aC hm
   obtain ⟨⟨⟨d7,d8⟩,d9⟩,a9⟩:=aCJ o r
   have c5:=gC a8 (i:=2) rfl (kK o r a9)
   refine aA (fT jO rfl c5 rfl rfl rfl r) ?_
   have c6:aM G K (bN 152 K j k (bK g p.Body)::rows [190,224] g p.Body::bN 104 K d b.length (bK c e)::rows [152,190,224] c e::L) a7:=a8
   have c7:aM G K (bN 152 K j k (bK g p.Body)::aDG [190,224] g p.Body::bN 104 K d b.length (bK c e)::rows [152,190,224] c e::L) a7:=aM.closeL (i:=1) c6 rfl c4
   obtain ⟨b0,J,hm⟩:=aC hm
   refine aJR (i:=0) (tys:=[152,190,224]) (hd':=(((j,k),g):Dp.Hd Definition)) (e':=(p:Definition)) (hds:=c) sizeOf104 c7 o rfl rfl rfl rfl rfl r a9 J rfl ?_
   intro c8 (c9:aM G K (bN 104 K d b.length (bK (List.set c i32.toNat ((j,k),g)) b0)::rows [152,190,224] (List.set c i32.toNat ((j,k),g)) b0::L) c8)
   exact cW (bH (aB (aU (bF q (aA (cA rfl rfl) (aD (v:=i64 (wr (i32+1))) (aF ⟨_,(zI hm).symm,aT,(List.set c i32.toNat ((j,k),g)),(Eq.trans x (congrArg (fun n=>zS d n b.length) (cE J))),rfl,(aCQ (hd:=(((j,k),g):Dp.Hd Definition)) o J),c9⟩)))))))
  ·refine aI z rfl (cD (bA (bA ?_)))
   have d0:=hr _ (zI hm).symm
   subst d0
   have hm:(qU e)=some R:=ho
   clear hr ho
   exact bR (aB ⟨aT,e,c,hm,x,o,y⟩)
theorem aLf {a R:(List Int)} (hm:aGa a=some R) (J:aM G K (L) w) (q:bY K a1 c2 a):
  Calls prog 79 ([zS a1 a.length c2]:List Value).toArray w (eK fun v w'=>∃ r u,v=zS r R.length u/\aM G K (bN 2 K r u R::L) w'):=by
 refine aP func79 rfl (by kernel_rfl) (by show (1:Nat)<=22;decide) ?_;unfold aGa at hm
 refine aJ (aD (v:=zS none 0 0) (aF (aJ (aG (v:=zS a1 a.length c2) (aA (bO (len:=a.length) fN rfl) ?_)))));obtain ⟨b,V,hm⟩:=aC hm
 refine aLM (e:=(0:Int)) fN aFe rfl rfl J rfl rfl rfl V rfl (fun c O (a0:aM G K (bN 2 K c b.length b::L) O)=>(aD (v:=zS c b.length b.length) (aF (aN (aJ (aD (v:=i64 0) (aF (bM [] (fun f w=>∃ d,aBL d=some R/\f 3=zS c d.length b.length/\aM G K (bN 2 K c b.length d::L) w) ?_ ?_))))))))
 ·rintro f b4 ⟨d,hm,a2,a3⟩
  unfold aBL at hm
  refine aB (aJ (bF a2 (aD (v:=zS c d.length b.length) (aF ?_))));obtain rfl:=zI hm
  exact aX (aO results79 rfl ⟨c,b.length,rfl,a3⟩)
 obtain ⟨b5,a5,ho⟩:=aC hm
 refine dD [0] a5 (fun g l f w=>f 3=zS c g.length b.length/\f 4=i64 l/\aM G K (bN 2 K c b.length g::L) w) ?_ ?_
 ·exact ⟨rfl,rfl,a0⟩
 ·rintro g l b6 f b7 hm hr ⟨m,j,k⟩
  unfold wL at hm
  refine aN (aJ (bF j (aG (v:=zS a1 a.length c2) (aA (bO (len:=a.length) fN rfl) (aA (cF rfl rfl) (aF ?_))))))
  rcases aH hm with ⟨o,hm⟩|⟨o,hm⟩
  ·refine aL o rfl (aW (aB (aN (bX (aU (bF m (bF j (aG (v:=zS a1 a.length c2) (bF j ?_)))))))));obtain ⟨x,y,hm⟩:=aC hm
   refine aA (cG fN rfl q rfl rfl rfl y) ?_;obtain ⟨b8,a7,a8⟩:=bY.el (sz:=1) rfl q y
   cases a8
   refine aA (cC (t:=0) dC k a7 rfl rfl) ?_;obtain ⟨b9,p,hm⟩:=aC hm
   have a9:=gC k (i:=0) rfl p
   refine aA (fT fN rfl a9 rfl rfl rfl p) ?_;obtain ⟨b0,z,hm⟩:=aC hm
   exact oZ (i:=0) (t:=0) (ns:=[i64 x]) (e':=(x:Int)) sizeOf2 k rfl (Hp.le_refl _) rfl rfl rfl p z rfl rfl (gJ rfl) rfl (fun cs h=>by cases h;rfl) (fun b1 (b2:aM G K (bN 2 K c b.length b0::L) b1)=>(cW (bH (aB (aU (bF j (aA (cA rfl rfl) (aD (v:=i64 (wr (l+1))) (aF ⟨_,(zI hm).symm,aT,(Eq.trans m (congrArg (fun n=>zS c n b.length) (cE z))),rfl,b2⟩)))))))))
  ·refine aI o rfl (cD (bA (bA ?_)))
   have b3:=hr _ (zI hm).symm
   subst b3
   have hm:(aBL g)=some R:=ho
   clear hr ho
   exact bR (aB ⟨aT,g,hm,m,k⟩)
theorem aIB {a R:bT} (hm:aBM a=some R) (q:aM G K (L) w) (r:bY K a1 c2 a.Values):
  Calls prog 54 ([zA #[i64 a.Definition,zS a1 a.Values.length c2]]:List Value).toArray w (eK fun v w'=>∃ k l,v=zA #[i64 R.Definition,zS k R.Values.length l]/\aM G K (bN 2 K k l R.Values::L) w'):=by
 let e:=[i64 a.Definition,zS a1 a.Values.length c2]
 refine aP func54 rfl (by kernel_rfl) (by show (1:Nat)<=12;decide) ?_;unfold aBM at hm
 refine aJ (dM (v:=zA #[i64 a.Definition,zS a1 a.Values.length c2]) (vs:=e) q rfl rfl (fun g w5 t=>(eA (vs:=[i64 0,zS none 0 0]) zeroValue100 t rfl (fun h w8 u=>(aF (aJ (eA (vs:=[i64 0,zS none 0 0]) zeroValue100 u rfl (fun j a3 m=>(aF (aJ (aA (bC (t':=0) fa_86_0 rfl rfl) (aA (bQ dC m (i:=2) rfl rfl rfl) (aA (bC (t':=0) vW rfl rfl) (eD (i:=0) (ns:=[i64 a.Definition]) (us:=[i64 a.Definition,zS none 0 0]) sizeOf2 m rfl rfl rfl rfl rfl (gJ rfl) rfl rfl (fun x (n:aM G K (box j 100 [i64 a.Definition,zS none 0 0]::box h 100 [i64 0,zS none 0 0]::box g 86 e::L) x)=>(aF (aJ (aA (bC (t':=1) fa_86_1 rfl rfl) (aA (bQ vL n (i:=2) rfl rfl rfl) ?_)))))))))))))))))))
 obtain ⟨d,y,hm⟩:=aC hm
 refine aQ (vs:=[zS a1 a.Values.length c2]) call79 rfl (aLf y n r) ?_
 rintro _ a4 ⟨b,c,rfl,z⟩
 refine aA (bC (t':=1) vX rfl rfl) (eD (i:=1) (ns:=[zS b d.length c]) (us:=[i64 a.Definition,zS b d.length c]) sizeOf68 z rfl rfl rfl rfl rfl (gJ rfl) rfl rfl (fun J (o:aM G K (bN 2 K b c d::box j 100 [i64 a.Definition,zS b d.length c]::box h 100 [i64 0,zS none 0 0]::box g 86 e::L) J)=>(aF (aJ (aA (fQ (us:=[i64 a.Definition,zS b d.length c]) aFQ o (i:=1) rfl rfl rfl rfl) (eD (i:=2) (ns:=[i64 a.Definition,zS b d.length c]) (us:=[i64 a.Definition,zS b d.length c]) sizeOf100 o rfl rfl rfl rfl rfl (gJ rfl) rfl rfl (fun V (p:aM G K (bN 2 K b c d::box j 100 [i64 a.Definition,zS b d.length c]::box h 100 [i64 a.Definition,zS b d.length c]::box g 86 e::L) V)=>(aF ?_))))))))
 obtain rfl:=zI hm
 exact aX (aEs results54 (aBY (vs:=[i64 a.Definition,zS b d.length c]) rfl aFQ p (i:=2) rfl rfl rfl) ⟨b,c,rfl,(aM.arr 4 [0] p rfl)⟩)
theorem aHW {a R:(List bT)} (hm:aAC a=some R) (hs:aM G K (L) w) (z:bY K a1 c2 a):
  Calls prog 24 ([zS a1 a.length c2]:List Value).toArray w (eK fun v w'=>∃ J V q,v=zS J R.length V/\List.length q=List.length R/\aM G K (bN 100 K J V (bK q R)::rows [2] q R::L) w'):=by
 refine aP func24 rfl (by kernel_rfl) (by show (1:Nat)<=23;decide) ?_;unfold aAC at hm
 refine aJ (aD (v:=zS none 0 0) (aF (aJ (aG (v:=zS a1 a.length c2) (aA (bO (len:=a.length) aNK rfl) ?_)))));obtain ⟨b,O,hm⟩:=aC hm
 refine aOs (tys:=[2]) (hd:=((none,0):Dp.Hd bT)) vV ez_100 rfl rfl hs rfl rfl rfl O rfl (aIT _) ?_
 intro c w7 (b1:aM G K (bN 100 K c b.length (bK (List.replicate (a.length:Int).toNat ((none,0):Dp.Hd bT)) b)::rows [2] (List.replicate (a.length:Int).toNat ((none,0):Dp.Hd bT)) b::L) w7)
 refine aD (v:=zS c b.length b.length) (aF (aN (aJ (aD (v:=i64 0) (aF (bM [] (fun f w=>∃ g k,sQ g=some R/\f 3=zS c g.length b.length/\List.length k=List.length g/\aM G K (bN 100 K c b.length (bK k g)::rows [2] k g::L) w) ?_ ?_))))))
 ·rintro f c8 ⟨g,k,hm,b2,b3,b4⟩
  unfold sQ at hm
  refine aB (aJ (bF b2 (aD (v:=zS c g.length b.length) (aF ?_))));obtain rfl:=zI hm
  exact aX (aO results24 rfl ⟨c,b.length,k,rfl,b3,b4⟩)
 obtain ⟨c9,b6,ho⟩:=aC hm
 refine dD [0] b6 (fun e i32 f w=>∃ d,f 3=zS c e.length b.length/\f 4=i64 i32/\List.length d=List.length e/\aM G K (bN 100 K c b.length (bK d e)::rows [2] d e::L) w) ?_ ?_
 ·exact ⟨(List.replicate (a.length:Int).toNat ((none,0):Dp.Hd bT)),rfl,rfl,(aFd (hd:=((none,0):Dp.Hd bT)) O).2.1,b1⟩
 ·rintro e i32 d0 f d1 hm hr ⟨d,r,m,l,u⟩
  unfold nX at hm
  refine aN (aJ (bF m (aG (v:=zS a1 a.length c2) (aA (bO (len:=a.length) aNK rfl) (aA (cF rfl rfl) (aF ?_))))))
  rcases aH hm with ⟨x,hm⟩|⟨x,hm⟩
  ·refine aL x rfl (aW (aB (aN (bX (aU (bF r (bF m (aG (v:=zS a1 a.length c2) (bF m ?_)))))))));obtain ⟨o,a0,hm⟩:=aC hm
   refine aA (cG aNK rfl z rfl rfl rfl a0) ?_;obtain ⟨d2,b7,b8⟩:=bY.el (sz:=2) rfl z a0
   obtain ⟨a2,a3,rfl,b9⟩:=b8
   refine aA (dZ (t:=0) (vs:=[i64 o.Definition,zS a2 o.Values.length a3]) ag_86 u b7 rfl rfl rfl) ?_;obtain ⟨a4,c0,hm⟩:=aC hm
   refine aQ (vs:=[zA #[i64 o.Definition,zS a2 o.Values.length a3]]) call54 rfl (aIB c0 u b9) ?_
   rintro _ c1 ⟨h,j,rfl,a5⟩
   obtain ⟨d3,p,hm⟩:=aC hm
   obtain ⟨⟨d4,d5⟩,a7⟩:=aCJ l p
   have c3:=gC a5 (i:=1) rfl (kK l p a7)
   refine aA (fT vV rfl c3 rfl rfl rfl p) ?_
   have c4:aM G K (bN 2 K h j a4.Values::bN 100 K c b.length (bK d e)::rows [2] d e::L) c1:=a5
   obtain ⟨a8,y,hm⟩:=aC hm
   refine aJR (i:=0) (tys:=[2]) (hd':=((h,j):Dp.Hd bT)) (e':=(a4:bT)) (hds:=d) sizeOf100 c4 l rfl rfl rfl rfl rfl p a7 y rfl ?_
   intro c5 (c6:aM G K (bN 100 K c b.length (bK (List.set d i32.toNat (h,j)) a8)::rows [2] (List.set d i32.toNat (h,j)) a8::L) c5)
   exact cW (bH (aB (aU (bF m (aA (cA rfl rfl) (aD (v:=i64 (wr (i32+1))) (aF ⟨_,(zI hm).symm,aT,(List.set d i32.toNat (h,j)),(Eq.trans r (congrArg (fun n=>zS c n b.length) (cE y))),rfl,(aCQ (hd:=((h,j):Dp.Hd bT)) l y),c6⟩)))))))
  ·refine aI x rfl (cD (bA (bA ?_)))
   have c7:=hr _ (zI hm).symm
   subst c7
   have hm:(sQ e)=some R:=ho
   clear hr ho
   exact bR (aB ⟨aT,e,d,hm,r,l,u⟩)
theorem aKf {a R:bU} (hm:aEB a=some R) (n:aM G K (L) w):
  Calls prog 55 ([zA #[bE a.Left,bE a.Right,bE a.Result]]:List Value).toArray w (eK fun v w'=>v=zA #[bE R.Left,bE R.Right,bE R.Result]/\aM G K (L) w'):=by
 let b:=[bE a.Left,bE a.Right,bE a.Result]
 let c:=[bE ([]:bJ),bE ([]:bJ),bE ([]:bJ)]
 refine aP func55 rfl (by kernel_rfl) (by show (1:Nat)<=14;decide) ?_;unfold aEB at hm
 refine aJ (dM (v:=zA #[bE a.Left,bE a.Right,bE a.Result]) (vs:=b) n rfl rfl (fun d y o=>(eA (vs:=c) zeroValue107 o rfl (fun e z p=>(aF (aJ (eA (vs:=c) zeroValue107 p rfl (fun g J h=>(aF (aJ (aA (bC (t':=0) fa_89_0 rfl rfl) (aA (bQ fA h (i:=2) rfl rfl rfl) (aA (bC (t':=0) kM rfl rfl) (eD (i:=0) (ns:=[bE a.Left]) (us:=[bE a.Left,bE ([]:bJ),bE ([]:bJ)]) sizeOf9 h rfl rfl rfl rfl rfl (gJ rfl) rfl rfl (fun q (j:aM G K (box g 107 [bE a.Left,bE ([]:bJ),bE ([]:bJ)]::box e 107 c::box d 89 b::L) q)=>(aF (aJ (aA (bC (t':=1) fa_89_1 rfl rfl) (aA (bQ fA j (i:=2) rfl rfl rfl) (aA (bC (t':=1) mC rfl rfl) (eD (i:=0) (ns:=[bE a.Right]) (us:=[bE a.Left,bE a.Right,bE ([]:bJ)]) sizeOf9 j rfl rfl rfl rfl rfl (gJ rfl) rfl rfl (fun r (k:aM G K (box g 107 [bE a.Left,bE a.Right,bE ([]:bJ)]::box e 107 c::box d 89 b::L) r)=>(aF ?_)))))))))))))))))))))))
 refine aJ (aA (bC (t':=2) fa_89_2 rfl rfl) (aA (bQ fA k (i:=2) rfl rfl rfl) (aA (bC (t':=2) rF rfl rfl) (eD (i:=0) (ns:=[bE a.Result]) (us:=b) sizeOf9 k rfl rfl rfl rfl rfl (gJ rfl) rfl rfl (fun t (l:aM G K (box g 107 b::box e 107 c::box d 89 b::L) t)=>(aF (aJ (aA (fQ (us:=b) aEO l (i:=0) rfl rfl rfl rfl) (eD (i:=1) (ns:=b) (us:=b) sizeOf107 l rfl rfl rfl rfl rfl (gJ rfl) rfl rfl (fun u (m:aM G K (box g 107 b::box e 107 b::box d 89 b::L) u)=>(aF ?_)))))))))))
 obtain rfl:=zI hm
 exact aX (aEs results55 (aBY (vs:=b) rfl aEO m (i:=1) rfl rfl rfl) ⟨rfl,(aM.arr 3 [] m rfl)⟩)
theorem aJh {a R:(List bU)} (hm:aDh a=some R) (O:aM G K (L) w) (u:bY K a1 c2 a):
  Calls prog 25 ([zS a1 a.length c2]:List Value).toArray w (eK fun v w'=>∃ x y,v=zS x R.length y/\aM G K (bN 107 K x y R::L) w'):=by
 refine aP func25 rfl (by kernel_rfl) (by show (1:Nat)<=23;decide) ?_;unfold aDh at hm
 refine aJ (aD (v:=zS none 0 0) (aF (aJ (aG (v:=zS a1 a.length c2) (aA (bO (len:=a.length) aNL rfl) ?_)))));obtain ⟨b,q5,hm⟩:=aC hm
 refine aLM (e:=(⟨[],[],[]⟩:bU)) mB ez_107 rfl rfl O rfl rfl rfl q5 rfl (fun c w7 (a3:aM G K (bN 107 K c b.length b::L) w7)=>(aD (v:=zS c b.length b.length) (aF (aN (aJ (aD (v:=i64 0) (aF (bM [] (fun f w=>∃ j,xJ j=some R/\f 3=zS c j.length b.length/\aM G K (bN 107 K c b.length j::L) w) ?_ ?_))))))))
 ·rintro f b7 ⟨j,hm,a4,a5⟩
  unfold xJ at hm
  refine aB (aJ (bF a4 (aD (v:=zS c j.length b.length) (aF ?_))));obtain rfl:=zI hm
  exact aX (aO results25 rfl ⟨c,b.length,rfl,a5⟩)
 obtain ⟨b8,a8,ho⟩:=aC hm
 refine dD [0] a8 (fun k m f w=>f 3=zS c k.length b.length/\f 4=i64 m/\aM G K (bN 107 K c b.length k::L) w) ?_ ?_
 ·exact ⟨rfl,rfl,a3⟩
 ·rintro k m b9 f c0 hm hr ⟨o,l,p⟩
  unfold rK at hm
  refine aN (aJ (bF l (aG (v:=zS a1 a.length c2) (aA (bO (len:=a.length) aNL rfl) (aA (cF rfl rfl) (aF ?_))))))
  rcases aH hm with ⟨q,hm⟩|⟨q,hm⟩
  ·refine aL q rfl (aW (aB (aN (bX (aU (bF o (bF l (aG (v:=zS a1 a.length c2) (bF l ?_)))))))));obtain ⟨d,z,hm⟩:=aC hm
   refine aA (cG aNL rfl u rfl rfl rfl z) ?_;obtain ⟨c1,a9,b0⟩:=bY.el (sz:=3) rfl u z
   cases b0
   refine aA (dZ (t:=0) (vs:=[bE d.Left,bE d.Right,bE d.Result]) ag_89 p a9 rfl rfl rfl) ?_;obtain ⟨g,b1,hm⟩:=aC hm
   refine aQ (vs:=[zA #[bE d.Left,bE d.Right,bE d.Result]]) call55 rfl (aKf b1 p) ?_
   rintro _ c3 ⟨rfl,J⟩
   obtain ⟨c4,r,hm⟩:=aC hm
   have b2:=gC J (i:=0) rfl r
   refine aA (fT mB rfl b2 rfl rfl rfl r) ?_;obtain ⟨b3,V,hm⟩:=aC hm
   exact oZ (i:=0) (t:=0) (ns:=[bE g.Left,bE g.Right,bE g.Result]) (e':=(⟨g.Left,g.Right,g.Result⟩:bU)) sizeOf107 J rfl (Hp.le_refl _) rfl rfl rfl r V rfl rfl (gJ rfl) rfl (fun cs h=>by cases h;rfl) (fun b4 (b5:aM G K (bN 107 K c b.length b3::L) b4)=>(cW (bH (aB (aU (bF l (aA (cA rfl rfl) (aD (v:=i64 (wr (m+1))) (aF ⟨_,(zI hm).symm,aT,(Eq.trans o (congrArg (fun n=>zS c n b.length) (cE V))),rfl,b5⟩)))))))))
  ·refine aI q rfl (cD (bA (bA ?_)))
   have b6:=hr _ (zI hm).symm
   subst b6
   have hm:(xJ k)=some R:=ho
   clear hr ho
   exact bR (aB ⟨aT,k,hm,o,p⟩)
theorem aFv {a R:(List bJ)} (hm:yV a=some R) (J:aM G K (L) w) (q:bY K a1 c2 a):
  Calls prog 26 ([zS a1 a.length c2]:List Value).toArray w (eK fun v w'=>∃ r u,v=zS r R.length u/\aM G K (bN 9 K r u R::L) w'):=by
 refine aP func26 rfl (by kernel_rfl) (by show (1:Nat)<=22;decide) ?_;unfold yV at hm
 refine aJ (aD (v:=zS none 0 0) (aF (aJ (aG (v:=zS a1 a.length c2) (aA (bO (len:=a.length) hH rfl) ?_)))));obtain ⟨b,V,hm⟩:=aC hm
 refine aLM (e:=([]:bJ)) hH ez_9 rfl rfl J rfl rfl rfl V rfl (fun c O (a0:aM G K (bN 9 K c b.length b::L) O)=>(aD (v:=zS c b.length b.length) (aF (aN (aJ (aD (v:=i64 0) (aF (bM [] (fun f w=>∃ d,aAD d=some R/\f 3=zS c d.length b.length/\aM G K (bN 9 K c b.length d::L) w) ?_ ?_))))))))
 ·rintro f b4 ⟨d,hm,a2,a3⟩
  unfold aAD at hm
  refine aB (aJ (bF a2 (aD (v:=zS c d.length b.length) (aF ?_))));obtain rfl:=zI hm
  exact aX (aO results26 rfl ⟨c,b.length,rfl,a3⟩)
 obtain ⟨b5,a5,ho⟩:=aC hm
 refine dD [0] a5 (fun g l f w=>f 3=zS c g.length b.length/\f 4=i64 l/\aM G K (bN 9 K c b.length g::L) w) ?_ ?_
 ·exact ⟨rfl,rfl,a0⟩
 ·rintro g l b6 f b7 hm hr ⟨m,j,k⟩
  unfold aAE at hm
  refine aN (aJ (bF j (aG (v:=zS a1 a.length c2) (aA (bO (len:=a.length) hH rfl) (aA (cF rfl rfl) (aF ?_))))))
  rcases aH hm with ⟨o,hm⟩|⟨o,hm⟩
  ·refine aL o rfl (aW (aB (aN (bX (aU (bF m (bF j (aG (v:=zS a1 a.length c2) (bF j ?_)))))))));obtain ⟨x,y,hm⟩:=aC hm
   refine aA (cG hH rfl q rfl rfl rfl y) ?_;obtain ⟨b8,a7,a8⟩:=bY.el (sz:=1) rfl q y
   cases a8
   refine aA (cC (t:=0) fA k a7 rfl rfl) ?_;obtain ⟨b9,p,hm⟩:=aC hm
   have a9:=gC k (i:=0) rfl p
   refine aA (fT hH rfl a9 rfl rfl rfl p) ?_;obtain ⟨b0,z,hm⟩:=aC hm
   exact oZ (i:=0) (t:=0) (ns:=[bE x]) (e':=(x:bJ)) sizeOf9 k rfl (Hp.le_refl _) rfl rfl rfl p z rfl rfl (gJ rfl) rfl (fun cs h=>by cases h;rfl) (fun b1 (b2:aM G K (bN 9 K c b.length b0::L) b1)=>(cW (bH (aB (aU (bF j (aA (cA rfl rfl) (aD (v:=i64 (wr (l+1))) (aF ⟨_,(zI hm).symm,aT,(Eq.trans m (congrArg (fun n=>zS c n b.length) (cE z))),rfl,b2⟩)))))))))
  ·refine aI o rfl (cD (bA (bA ?_)))
   have b3:=hr _ (zI hm).symm
   subst b3
   have hm:(aAD g)=some R:=ho
   clear hr ho
   exact bR (aB ⟨aT,g,hm,m,k⟩)
theorem xZ {a R:bZ} (hm:qV a=some R) (hs:aM G K (L) w) (h3:bY K a1 c2 a.Definitions) (h6:bY K a4 c5 a.Components) (h9:bY K a7 c8 a.Meetings) (c6:bY K a10 c11 a.Allowed) (c7:bY K a13 c14 a.Hidden):
  Calls prog 6 ([zA #[zS a1 a.Definitions.length c2,zS a4 a.Components.length c5,zS a7 a.Meetings.length c8,zS a10 a.Allowed.length c11,zS a13 a.Hidden.length c14]]:List Value).toArray w (eK fun v w'=>∃ a0 a2 V a3 a5 O a6 a8 a9 b0 b1 b2,v=zA #[zS a0 R.Definitions.length a2,zS a3 R.Components.length a5,zS a6 R.Meetings.length a8,zS a9 R.Allowed.length b0,zS b1 R.Hidden.length b2]/\List.length V=List.length R.Definitions/\List.length O=List.length R.Components/\aM G K (bN 104 K a0 a2 (bK V R.Definitions)::rows [152,190,224] V R.Definitions::bN 100 K a3 a5 (bK O R.Components)::rows [2] O R.Components::bN 107 K a6 a8 R.Meetings::bN 9 K a9 b0 R.Allowed::bN 9 K b1 b2 R.Hidden::L) w'):=by
 let u:=[zS a1 a.Definitions.length c2,zS a4 a.Components.length c5,zS a7 a.Meetings.length c8,zS a10 a.Allowed.length c11,zS a13 a.Hidden.length c14]
 let x:=[zS none 0 0,zS none 0 0,zS none 0 0,zS none 0 0,zS none 0 0]
 refine aP func6 rfl (by kernel_rfl) (by show (1:Nat)<=25;decide) ?_;unfold qV at hm
 refine aJ (dM (v:=zA #[zS a1 a.Definitions.length c2,zS a4 a.Components.length c5,zS a7 a.Meetings.length c8,zS a10 a.Allowed.length c11,zS a13 a.Hidden.length c14]) (vs:=u) hs rfl rfl (fun y f0 c9=>(eA (vs:=x) zeroValue37 c9 rfl (fun z f1 d0=>(aF (aJ (eA (vs:=x) zeroValue37 d0 rfl (fun J f2 b3=>(aF (aJ (aA (bC (t':=0) fa_27_0 rfl rfl) (aA (bQ sc_22 b3 (i:=2) rfl rfl rfl) ?_))))))))))));obtain ⟨b,d1,hm⟩:=aC hm
 refine aQ (vs:=[zS a1 a.Definitions.length c2]) call23 rfl (aHh d1 b3 h3) ?_
 rintro _ f3 ⟨d,e,o,rfl,d2,d3⟩
 refine aA (bC (t':=0) zW rfl rfl) (eD (i:=2) (ns:=[zS d b.length e]) (us:=[zS d b.length e,zS none 0 0,zS none 0 0,zS none 0 0,zS none 0 0]) sizeOf33 d3 rfl rfl rfl rfl rfl (gJ rfl) rfl rfl (fun d4 (b4:aM G K (bN 104 K d e (bK o b)::rows [152,190,224] o b::box J 37 [zS d b.length e,zS none 0 0,zS none 0 0,zS none 0 0,zS none 0 0]::box z 37 x::box y 27 u::L) d4)=>(aF (aJ (aA (bC (t':=1) fa_27_1 rfl rfl) (aA (bQ sc_23 b4 (i:=4) rfl rfl rfl) ?_))))))
 obtain ⟨c,d5,hm⟩:=aC hm
 refine aQ (vs:=[zS a4 a.Components.length c5]) call24 rfl (aHW d5 b4 h6) ?_
 rintro _ f4 ⟨g,h,r,rfl,d6,d7⟩
 refine aA (bC (t':=1) uM rfl rfl) (eD (i:=4) (ns:=[zS g c.length h]) (us:=[zS d b.length e,zS g c.length h,zS none 0 0,zS none 0 0,zS none 0 0]) sizeOf34 d7 rfl rfl rfl rfl rfl (gJ rfl) rfl rfl (fun d8 (b5:aM G K (bN 100 K g h (bK r c)::rows [2] r c::bN 104 K d e (bK o b)::rows [152,190,224] o b::box J 37 [zS d b.length e,zS g c.length h,zS none 0 0,zS none 0 0,zS none 0 0]::box z 37 x::box y 27 u::L) d8)=>(aF (aJ (aA (bC (t':=2) fa_27_2 rfl rfl) (aA (bQ sc_24 b5 (i:=6) rfl rfl rfl) ?_))))))
 obtain ⟨k,d9,hm⟩:=aC hm
 refine aQ (vs:=[zS a7 a.Meetings.length c8]) call25 rfl (aJh d9 b5 h9) ?_
 rintro _ f5 ⟨j,c48,rfl,e0⟩
 refine aA (bC (t':=2) aCR rfl rfl) (eD (i:=5) (ns:=[zS j k.length c48]) (us:=[zS d b.length e,zS g c.length h,zS j k.length c48,zS none 0 0,zS none 0 0]) sizeOf35 e0 rfl rfl rfl rfl rfl (gJ rfl) rfl rfl (fun e1 (b6:aM G K (bN 107 K j c48 k::bN 100 K g h (bK r c)::rows [2] r c::bN 104 K d e (bK o b)::rows [152,190,224] o b::box J 37 [zS d b.length e,zS g c.length h,zS j k.length c48,zS none 0 0,zS none 0 0]::box z 37 x::box y 27 u::L) e1)=>(aF (aJ (aA (bC (t':=3) fa_27_3 rfl rfl) (aA (bQ zV b6 (i:=7) rfl rfl rfl) ?_))))))
 obtain ⟨n,e2,hm⟩:=aC hm
 refine aQ (vs:=[zS a10 a.Allowed.length c11]) call26 rfl (aFv e2 b6 c6) ?_
 rintro _ f6 ⟨l,m,rfl,e3⟩
 refine aA (bC (t':=3) aCS rfl rfl) (eD (i:=6) (ns:=[zS l n.length m]) (us:=[zS d b.length e,zS g c.length h,zS j k.length c48,zS l n.length m,zS none 0 0]) sizeOf25 e3 rfl rfl rfl rfl rfl (gJ rfl) rfl rfl (fun e4 (b7:aM G K (bN 9 K l m n::bN 107 K j c48 k::bN 100 K g h (bK r c)::rows [2] r c::bN 104 K d e (bK o b)::rows [152,190,224] o b::box J 37 [zS d b.length e,zS g c.length h,zS j k.length c48,zS l n.length m,zS none 0 0]::box z 37 x::box y 27 u::L) e4)=>(aF (aJ (aA (bC (t':=4) fa_27_4 rfl rfl) (aA (bQ zV b7 (i:=8) rfl rfl rfl) ?_))))))
 obtain ⟨t,e5,hm⟩:=aC hm
 refine aQ (vs:=[zS a13 a.Hidden.length c14]) call26 rfl (aFv e5 b7 c7) ?_
 rintro _ f7 ⟨p,q,rfl,e6⟩
 refine aA (bC (t':=4) aEu rfl rfl) (eD (i:=7) (ns:=[zS p t.length q]) (us:=[zS d b.length e,zS g c.length h,zS j k.length c48,zS l n.length m,zS p t.length q]) sizeOf25 e6 rfl rfl rfl rfl rfl (gJ rfl) rfl rfl (fun e7 (b8:aM G K (bN 9 K p q t::bN 9 K l m n::bN 107 K j c48 k::bN 100 K g h (bK r c)::rows [2] r c::bN 104 K d e (bK o b)::rows [152,190,224] o b::box J 37 [zS d b.length e,zS g c.length h,zS j k.length c48,zS l n.length m,zS p t.length q]::box z 37 x::box y 27 u::L) e7)=>(aF (aJ (aA (fQ (us:=[zS d b.length e,zS g c.length h,zS j k.length c48,zS l n.length m,zS p t.length q]) aFf b8 (i:=7) rfl rfl rfl rfl) (eD (i:=8) (ns:=[zS d b.length e,zS g c.length h,zS j k.length c48,zS l n.length m,zS p t.length q]) (us:=[zS d b.length e,zS g c.length h,zS j k.length c48,zS l n.length m,zS p t.length q]) sizeOf37 b8 rfl rfl rfl rfl rfl (gJ rfl) rfl rfl (fun e8 (b9:aM G K (bN 9 K p q t::bN 9 K l m n::bN 107 K j c48 k::bN 100 K g h (bK r c)::rows [2] r c::bN 104 K d e (bK o b)::rows [152,190,224] o b::box J 37 [zS d b.length e,zS g c.length h,zS j k.length c48,zS l n.length m,zS p t.length q]::box z 37 [zS d b.length e,zS g c.length h,zS j k.length c48,zS l n.length m,zS p t.length q]::box y 27 u::L) e8)=>(aF ?_))))))))
 obtain rfl:=zI hm
 exact aX (aEs results6 (aBY (vs:=[zS d b.length e,zS g c.length h,zS j k.length c48,zS l n.length m,zS p t.length q]) rfl aFf b9 (i:=8) rfl rfl rfl) ⟨d,e,o,g,h,r,j,c48,l,m,p,q,rfl,d2,d6,(aM.arr 10 [5,6,3,4,2,1,0] b9 rfl)⟩)
theorem fK {n low b:Int} {R:Bool} (hm:iD n low b=some R) (d:aM G K (L) w):
  Calls prog 58 ([i64 n,i64 low,i64 b]:List Value).toArray w (eK fun v w'=>v=zB R/\aM G K (L) w'):=by
 refine aP func58 rfl (by kernel_rfl) (by show (3:Nat)<=15;decide) ?_;unfold iD at hm
 refine aJ (aD (v:=zB false) (aF (aN (cP [] (fun f w=>∃ c,aEC c=some R/\f 6=zB c/\aM G K (L) w) ?_ ?_))))
 ·rintro f j ⟨c,hm,e,h⟩
  unfold aEC at hm
  refine aB ?_;obtain rfl:=zI hm
  exact aX (aO results58 rfl ⟨e,h⟩)
 refine aU (aG (v:=i64 n) (aG (v:=i64 low) (aA (sO rfl rfl) (aG (v:=zB (decide (low<=n))) ?_))))
 rcases aH hm with ⟨a,hm⟩|⟨a,hm⟩
 ·exact bB a rfl rfl (aG (v:=i64 n) (bB a rfl rfl (aG (v:=i64 b) (bB a rfl rfl (aA (vR rfl rfl) (aA (bI (v:=zB (decide (n<=b))) a rfl rfl) (aD (v:=zB (decide (n<=b))) (aF ⟨aT,decide (n<=b),hm,rfl,d⟩))))))))
 ·exact aV a rfl rfl (aV a rfl rfl (aV a rfl rfl (aA (bL (v:=zB false) a rfl rfl) (aD (v:=zB false) (aF ⟨aT,false,hm,rfl,d⟩)))))
theorem aGf {d:Definition} {R:Bool} (hm:sR d=some R) (b:aM G K (L) w) (j:bY K a1 c2 d.Body):
  Calls prog 177 ([zA #[bE d.Name,i64 d.Parameters,zS a1 d.Body.length c2]]:List Value).toArray w (eK fun v w'=>v=zB R/\aM G K (L) w'):=by
 refine aP func177 rfl (by kernel_rfl) (by show (1:Nat)<=7;decide) ?_;unfold sR at hm
 refine aJ (dM (v:=zA #[bE d.Name,i64 d.Parameters,zS a1 d.Body.length c2]) (vs:=[bE d.Name,i64 d.Parameters,zS a1 d.Body.length c2]) b rfl rfl (fun k l a=>(aD (v:=zB false) (aF (aJ (aA (bC (t':=1) rE rfl rfl) (aA (bQ dC a (i:=0) rfl rfl rfl) ?_)))))));obtain ⟨c,e,hm⟩:=aC hm
 refine aQ (vs:=[i64 d.Parameters,i64 0,i64 3]) call58 rfl (fK e a) ?_
 rintro _ m ⟨rfl,g⟩
 refine aA (dA rfl) (aD (v:=zB (!c)) (aF ?_));obtain rfl:=zI hm
 exact aX (aO results177 rfl ⟨rfl,(aM.arr 1 [] g rfl)⟩)
theorem kZ {s_:(List Definition)} {R:Int} (hm:eE s_=some R) (m:aM G K (L) w) (j:bY K a1 c2 s_):
  Calls prog 179 ([zS a1 s_.length c2,Value.func (.func 177) #[] #[]]:List Value).toArray w (eK fun v w'=>v=i64 R/\aM G K (L) w'):=by
 refine aP func179 rfl (by kernel_rfl) (by show (2:Nat)<=19;decide) ?_;unfold eE at hm
 refine aJ (aD (v:=i64 0) (aF (aN (aJ (aG (v:=zS a1 s_.length c2) (aA (bO (len:=s_.length) jO rfl) (aG (v:=i64 0) (aF (bM [] (fun f w=>dX=some R/\aM G K (L) w) ?_ ?_)))))))))
 ·rintro f V ⟨hm,n⟩
  unfold dX at hm
  refine aB (aJ (aD (v:=i64 (-1)) (aF ?_)));obtain rfl:=zI hm
  exact aX (aO results179 rfl ⟨rfl,n⟩)
 obtain ⟨O,p,ho⟩:=aC hm
 refine dP [0,1,7] p (fun b f w=>f 8=i64 b/\aM G K (L) w) ?_ ?_
 ·exact ⟨rfl,m⟩
 ·rintro b a0 f a2 hm hr ⟨c,d⟩
  unfold dF at hm
  refine aJ (aA (cF c rfl) (aF (aN ?_)))
  rcases aH hm with ⟨e,hm⟩|⟨e,hm⟩
  ·refine aL e rfl (aW (aB (aN (bX (aJ (bF c (aD (v:=i64 b) (aF (aJ (aG (v:=Value.func (.func 177) #[] #[]) (aG (v:=zS a1 s_.length c2) (aG (v:=i64 b) ?_))))))))))));obtain ⟨a,k,hm⟩:=aC hm
   refine aA (cG jO rfl j rfl rfl rfl k) ?_;obtain ⟨a3,q,r⟩:=bY.el (sz:=3) rfl j k
   obtain ⟨g,h,rfl,u⟩:=r
   refine aA (dZ (t:=0) (vs:=[bE a.Name,i64 a.Parameters,zS g a.Body.length h]) aCK d q rfl rfl rfl) ?_;obtain ⟨a4,x,hm⟩:=aC hm
   refine sZ (vs:=[zA #[bE a.Name,i64 a.Parameters,zS g a.Body.length h]]) (caps:=[]) (us:=[zA #[bE a.Name,i64 a.Parameters,zS g a.Body.length h]]) rfl call177 rfl rfl (aGf x d u) ?_
   rintro _ a5 ⟨rfl,l⟩
   refine aF ?_
   rcases aH hm with ⟨i,hm⟩|⟨i,hm⟩
   ·refine aL i rfl (aJ (aG (v:=i64 b) (aD (v:=i64 b) (aF (aX (aY (aK (aK ?_))))))))
    have y:=hr _ (zI hm).symm
    subst y
    have hm:(some b)=some R:=ho
    clear hr ho
    obtain rfl:=zI hm
    exact aY (aK (aK (aO results179 rfl ⟨rfl,l⟩)))
   ·exact aI i rfl (aW (bH (aB (aU (aA (cA c rfl) (aG (v:=i64 (wr (b+1))) (aF ⟨_,(zI hm).symm,aT,rfl,l⟩)))))))
  ·refine aI e rfl (cD (bA (bA ?_)))
   have J:=hr _ (zI hm).symm
   subst J
   have hm:(dX)=some R:=ho
   clear hr ho
   exact bR (aB ⟨aT,hm,d⟩)
theorem kC {s_:(List Definition)} {R:Bool} (hm:dG s_=some R) (a:aM G K (L) w) (b:bY K a1 c2 s_):
  Calls prog 176 ([zS a1 s_.length c2,Value.func (.func 177) #[] #[]]:List Value).toArray w (eK fun v w'=>v=zB R/\aM G K (L) w'):=by
 refine aP func176 rfl (by kernel_rfl) (by show (2:Nat)<=9;decide) ?_;unfold dG at hm
 refine aJ (aD (v:=zB false) (aF (aJ (aG (v:=zS a1 s_.length c2) (aG (v:=Value.func (.func 177) #[] #[]) ?_)))));obtain ⟨c,d,hm⟩:=aC hm
 refine aQ (vs:=[zS a1 s_.length c2,Value.func (.func 177) #[] #[]]) call179 rfl (kZ d a b) ?_
 rintro _ h ⟨rfl,e⟩
 refine aA (sO rfl rfl) (aD (v:=zB (decide (0<=c))) (aF ?_));obtain rfl:=zI hm
 exact aX (aO results176 rfl ⟨rfl,e⟩)
theorem aHX {a:(List Definition)} {R:Bool} (hm:tV a=some R) (b:aM G K (L) w) (c:bY K a1 c2 a):
  Calls prog 141 ([zS a1 a.length c2]:List Value).toArray w (eK fun v w'=>v=zB R/\aM G K (L) w'):=by
 refine aP func141 rfl (by kernel_rfl) (by show (1:Nat)<=6;decide) ?_;unfold tV at hm
 refine aJ (aD (v:=zB false) (aF (aJ (aG (v:=zS a1 a.length c2) ?_))));obtain ⟨d,e,hm⟩:=aC hm
 refine aQ (vs:=[zS a1 a.length c2,Value.func (.func 177) #[] #[]]) call176 rfl (kC e b c) ?_
 rintro _ i ⟨rfl,g⟩
 refine aA (dA rfl) (aD (v:=zB (!d)) (aF ?_));obtain rfl:=zI hm
 exact aX (aO results141 rfl ⟨rfl,g⟩)
theorem aMr {c:UInt8} {R:Bool} (hm:aHF c=some R) (d:aM G K (L) w):
  Calls prog 178 ([Value.int .u8 (c.toNat:Int)]:List Value).toArray w (eK fun v w'=>v=zB R/\aM G K (L) w'):=by
 refine aP func178 rfl (by kernel_rfl) (by show (1:Nat)<=9;decide) ?_;unfold aHF at hm
 refine aJ (aD (v:=zB false) (aF (aN (cP [] (fun f w=>∃ b,aDi b=some R/\f 2=zB b/\aM G K (L) w) ?_ ?_))))
 ·rintro f j ⟨b,hm,e,h⟩
  unfold aDi at hm
  refine aB ?_;obtain rfl:=zI hm
  exact aX (aO results178 rfl ⟨e,h⟩)
 refine aU (aG (v:=Value.int .u8 (c.toNat:Int)) (aA (sO rfl rfl) (aG (v:=zB (decide (48<=(c.toNat:Int)))) ?_)))
 rcases aH hm with ⟨a,hm⟩|⟨a,hm⟩
 ·exact bB a rfl rfl (aG (v:=Value.int .u8 (c.toNat:Int)) (bB a rfl rfl (aA (vR rfl rfl) (aA (bI (v:=zB (decide ((c.toNat:Int)<=57))) a rfl rfl) (aD (v:=zB (decide ((c.toNat:Int)<=57))) (aF ⟨aT,decide ((c.toNat:Int)<=57),hm,rfl,d⟩))))))
 ·exact aV a rfl rfl (aV a rfl rfl (aA (bL (v:=zB false) a rfl rfl) (aD (v:=zB false) (aF ⟨aT,false,hm,rfl,d⟩))))
theorem aIo {s_:bJ} {R:Bool} (hm:aFo s_=some R) (y:aM G K (L) w):
  Calls prog 142 ([bE s_]:List Value).toArray w (eK fun v w'=>v=zB R/\aM G K (L) w'):=by
 refine aP func142 rfl (by kernel_rfl) (by show (1:Nat)<=42;decide) ?_;unfold aFo at hm
 refine aJ (aD (v:=zB false) (aF (aN (aJ (aG (v:=bE s_) (aA (fX runUnderlying9 rfl) (aG (v:=i64 0) (aF (bM [0] (fun f w=>aCq s_=some R/\aM G K (L) w) ?_ ?_)))))))))
 ·rintro f w1 ⟨hm,q⟩
  unfold aCq at hm
  refine aB (aN (cP [] (fun f w=>∃ i,aED i=some R/\f 2=zB i/\aM G K (L) w) ?_ ?_))
  ·rintro f w5 ⟨i,hm,z,J⟩
   unfold aED at hm
   refine aB ?_;obtain rfl:=zI hm
   exact aX (aO results142 rfl ⟨z,J⟩)
  refine aU (aG (v:=bE s_) (aA (fX runUnderlying9 rfl) (aA (sO rfl rfl) (aG (v:=zB (decide (1<=(s_.length:Int)))) ?_))))
  rcases aH hm with ⟨e,hm⟩|⟨e,hm⟩
  ·exact bB e rfl rfl (aG (v:=bE s_) (bB e rfl rfl (aA (fX runUnderlying9 rfl) (bB e rfl rfl (aA (vR rfl rfl) (aA (bI (v:=zB (decide ((s_.length:Int)<=10))) e rfl rfl) (aD (v:=zB (decide ((s_.length:Int)<=10))) (aF ⟨aT,decide ((s_.length:Int)<=10),hm,rfl,q⟩))))))))
  ·exact aV e rfl rfl (aV e rfl rfl (aV e rfl rfl (aA (bL (v:=zB false) e rfl rfl) (aD (v:=zB false) (aF ⟨aT,false,hm,rfl,q⟩)))))
 obtain ⟨b0,O,ho⟩:=aC hm
 refine dP [0,6] O (fun c f w=>f 7=i64 c/\aM G K (L) w) ?_ ?_
 ·exact ⟨rfl,y⟩
 ·rintro c r f b1 hm hr ⟨j,k⟩
  unfold yX at hm
  refine aJ (aA (cF j rfl) (aF (aN ?_)))
  rcases aH hm with ⟨l,hm⟩|⟨l,hm⟩
  ·refine aL l rfl (aW (aB (aN (bX (aJ (bF j (aD (v:=i64 c) (aF (aN (cP [0,3,6,7] (fun f w=>∃ h,qJ s_ c h=some r/\f 4=zB h/\aM G K (L) w) ?_ ?_))))))))))
   ·rintro f b2 ⟨h,hm,a0,m⟩
    unfold qJ at hm
    refine aB (aN (cP [0,6,7] (fun f w=>∃ n,yW c n=some r/\f 32=zB n/\aM G K (L) w) ?_ ?_))
    ·rintro f b3 ⟨n,hm,t,u⟩
     unfold yW at hm
     refine aB ?_
     rcases aH hm with ⟨o,hm⟩|⟨o,hm⟩
     ·refine aL o t (aJ (aD (v:=zB false) (aF (aX (aY (aK (aK ?_)))))))
      have a1:=hr _ (zI hm).symm
      subst a1
      have hm:(some false)=some R:=ho
      clear hr ho
      obtain rfl:=zI hm
      exact aY (aK (aK (aO results142 rfl ⟨rfl,u⟩)))
     ·exact aI o t (aW (bH (aB (aU (aA (cA j rfl) (aG (v:=i64 (wr (c+1))) (aF ⟨_,(zI hm).symm,aT,rfl,u⟩)))))))
    refine aU (bF a0 (aA (dA rfl) (aG (v:=zB (!h)) ?_)))
    rcases aH hm with ⟨a,hm⟩|⟨a,hm⟩
    ·refine bB a rfl rfl (aG (v:=i64 c) (bB a rfl rfl (aA (cK rfl rfl) (bB a rfl rfl (aG (v:=zB (c == 0)) ?_)))))
     rcases aH hm with ⟨b,hm⟩|⟨b,hm⟩
     ·exact aR b rfl rfl (aR b rfl rfl (aR b rfl rfl (aR b rfl rfl (aR b rfl rfl (bB a rfl rfl (aA (bI (v:=zB true) b rfl rfl) (aA (bI (v:=zB true) a rfl rfl) (aF ⟨aT,true,hm,rfl,m⟩))))))))
     ·refine bD b rfl rfl (aG (v:=bE s_) (bD b rfl rfl (aG (v:=i64 c) (bD b rfl rfl ?_))));obtain ⟨a3,a4,hm⟩:=aC hm
      refine aA (aDE runUnderlying9 rfl rfl a4) (bD b rfl rfl ?_);obtain ⟨p,a5,hm⟩:=aC hm
      refine aQ (vs:=[Value.int .u8 (a3.toNat:Int)]) call178 rfl (aMr a5 m) ?_
      rintro _ b4 ⟨rfl,a6⟩
      exact bD b rfl rfl (aA (dA rfl) (bB a rfl rfl (aA (bL (v:=zB (!p)) b rfl rfl) (aA (bI (v:=zB (!p)) a rfl rfl) (aF ⟨aT,!p,hm,rfl,a6⟩)))))
    ·exact aV a rfl rfl (aV a rfl rfl (aV a rfl rfl (cL (g:=25) rfl rfl (cL (g:=25) rfl rfl (cL (g:=25) rfl rfl (cL (g:=25) rfl rfl (cL (g:=25) rfl rfl (aV a rfl rfl (aA (bL (v:=zB false) a rfl rfl) (aF ⟨aT,false,hm,rfl,m⟩))))))))))
   refine aU (aG (v:=bE s_) (aG (v:=i64 c) ?_));obtain ⟨c45,x,hm⟩:=aC hm
   refine aA (aDE runUnderlying9 rfl rfl x) (aA (sO rfl rfl) (aG (v:=zB (decide (97<=(c45.toNat:Int)))) ?_))
   rcases aH hm with ⟨d,hm⟩|⟨d,hm⟩
   ·exact bB d rfl rfl (aG (v:=bE s_) (bB d rfl rfl (aG (v:=i64 c) (bB d rfl rfl (aA (aDE runUnderlying9 rfl rfl x) (bB d rfl rfl (aA (vR rfl rfl) (aA (bI (v:=zB (decide ((c45.toNat:Int)<=122))) d rfl rfl) (aD (v:=zB (decide ((c45.toNat:Int)<=122))) (aF ⟨aT,decide ((c45.toNat:Int)<=122),hm,rfl,k⟩))))))))))
   ·exact aV d rfl rfl (aV d rfl rfl (aV d rfl rfl (aV d rfl rfl (aA (bL (v:=zB false) d rfl rfl) (aD (v:=zB false) (aF ⟨aT,false,hm,rfl,k⟩))))))
  ·refine aI l rfl (cD (bA (bA ?_)))
   have a7:=hr _ (zI hm).symm
   subst a7
   have hm:(aCq s_)=some R:=ho
   clear hr ho
   exact bR (aB ⟨aT,hm,k⟩)
theorem aEl {d:Definition} {p:bJ} {b:Nat} {R:Bool} (hm:nY d p=some R) (c:aM G K (L) w) (h:bY K a1 c2 d.Body) (e:iG K a4 b [bE p]):
  Calls prog 180 ([zA #[bE d.Name,i64 d.Parameters,zS a1 d.Body.length c2],eP a4 b]:List Value).toArray w (eK fun v w'=>v=zB R/\aM G K (L) w'):=by
 refine aP func180 rfl (by kernel_rfl) (by show (2:Nat)<=8;decide) ?_;unfold nY at hm
 refine aJ (dM (v:=zA #[bE d.Name,i64 d.Parameters,zS a1 d.Body.length c2]) (vs:=[bE d.Name,i64 d.Parameters,zS a1 d.Body.length c2]) c rfl rfl (fun j k a=>(aD (v:=zB false) (aF (aJ (aA (bC (t':=0) vU rfl rfl) (aA (bQ fA a (i:=0) rfl rfl rfl) (aA (cC (t:=0) fA a e rfl rfl) (aA (kS rfl rfl) (aD (v:=zB (d.Name == p)) (aF ?_)))))))))));obtain rfl:=zI hm
 exact aX (aO results180 rfl ⟨rfl,(aM.arr 1 [] a rfl)⟩)
theorem kD {s_:(List Definition)} {k:bJ} {c:Nat} {R:Int} (hm:dY s_ k=some R) (o:aM G K (L) w) (l:bY K a1 c2 s_) (p:iG K a4 c [bE k]):
  Calls prog 179 ([zS a1 s_.length c2,Value.func (.func 180) #[] #[eP a4 c]]:List Value).toArray w (eK fun v w'=>v=i64 R/\aM G K (L) w'):=by
 refine aP func179 rfl (by kernel_rfl) (by show (2:Nat)<=19;decide) ?_;unfold dY at hm
 refine aJ (aD (v:=i64 0) (aF (aN (aJ (aG (v:=zS a1 s_.length c2) (aA (bO (len:=s_.length) jO rfl) (aG (v:=i64 0) (aF (bM [] (fun f w=>dT=some R/\aM G K (L) w) ?_ ?_)))))))))
 ·rintro f w7 ⟨hm,q⟩
  unfold dT at hm
  refine aB (aJ (aD (v:=i64 (-1)) (aF ?_)));obtain rfl:=zI hm
  exact aX (aO results179 rfl ⟨rfl,q⟩)
 obtain ⟨a3,u,ho⟩:=aC hm
 refine dP [0,1,7] u (fun b f w=>f 8=i64 b/\aM G K (L) w) ?_ ?_
 ·exact ⟨rfl,o⟩
 ·rintro b a5 f a6 hm hr ⟨d,e⟩
  unfold cY at hm
  refine aJ (aA (cF d rfl) (aF (aN ?_)))
  rcases aH hm with ⟨g,hm⟩|⟨g,hm⟩
  ·refine aL g rfl (aW (aB (aN (bX (aJ (bF d (aD (v:=i64 b) (aF (aJ (aG (v:=Value.func (.func 180) #[] #[eP a4 c]) (aG (v:=zS a1 s_.length c2) (aG (v:=i64 b) ?_))))))))))));obtain ⟨a,m,hm⟩:=aC hm
   refine aA (cG jO rfl l rfl rfl rfl m) ?_;obtain ⟨a7,x,y⟩:=bY.el (sz:=3) rfl l m
   obtain ⟨h,i,rfl,z⟩:=y
   refine aA (dZ (t:=0) (vs:=[bE a.Name,i64 a.Parameters,zS h a.Body.length i]) aCK e x rfl rfl rfl) ?_;obtain ⟨a8,J,hm⟩:=aC hm
   refine sZ (vs:=[zA #[bE a.Name,i64 a.Parameters,zS h a.Body.length i]]) (caps:=[eP a4 c]) (us:=[zA #[bE a.Name,i64 a.Parameters,zS h a.Body.length i],eP a4 c]) rfl call180 rfl rfl (aEl J e z p) ?_
   rintro _ a9 ⟨rfl,n⟩
   refine aF ?_
   rcases aH hm with ⟨j,hm⟩|⟨j,hm⟩
   ·refine aL j rfl (aJ (aG (v:=i64 b) (aD (v:=i64 b) (aF (aX (aY (aK (aK ?_))))))))
    have V:=hr _ (zI hm).symm
    subst V
    have hm:(some b)=some R:=ho
    clear hr ho
    obtain rfl:=zI hm
    exact aY (aK (aK (aO results179 rfl ⟨rfl,n⟩)))
   ·exact aI j rfl (aW (bH (aB (aU (aA (cA d rfl) (aG (v:=i64 (wr (b+1))) (aF ⟨_,(zI hm).symm,aT,rfl,n⟩)))))))
  ·refine aI g rfl (cD (bA (bA ?_)))
   have a0:=hr _ (zI hm).symm
   subst a0
   have hm:(dT)=some R:=ho
   clear hr ho
   exact bR (aB ⟨aT,hm,e⟩)
theorem aGg {a:(List Definition)} {b:bJ} {R:Int} (hm:nZ a b=some R) (d:aM G K (L) w) (e:bY K a1 c2 a):
  Calls prog 143 ([zS a1 a.length c2,bE b]:List Value).toArray w (eK fun v w'=>v=i64 R/\aM G K (L) w'):=by
 refine aP func143 rfl (by kernel_rfl) (by show (2:Nat)<=8;decide) ?_;unfold nZ at hm
 refine aJ (dM (v:=bE b) (vs:=[bE b]) d rfl rfl (fun c q g=>(aD (v:=i64 0) (aF (aJ (aG (v:=zS a1 a.length c2) (aA (yA (vs:=[zP (some ⟨c,0,none⟩)]) rfl) ?_)))))));obtain ⟨r,h,i,j,k⟩:=aM.lendBp g .head
 obtain ⟨l,m,hm⟩:=aC hm
 refine aQ (vs:=[zS a1 a.length c2,Value.func (.func 180) #[] #[eP (some ⟨c,0,none⟩) 0]]) call179 rfl (kD m j (e.mono h) i) ?_
 rintro _ t ⟨rfl,n⟩
 have o:=k _ _ n
 refine aD (v:=i64 l) (aF ?_);obtain rfl:=zI hm
 exact aX (aO results143 rfl ⟨rfl,(aM.arr 1 [] o rfl)⟩)
theorem aEa {p:Part} {R:Int} (hm:wM p=some R) (k:aM G K (L) w) (o:bY K a1 c2 p.Arguments):
  Calls prog 187 ([zA #[i64 p.Kind,i64 p.Number,bE p.Name,zS a1 p.Arguments.length c2]]:List Value).toArray w (eK fun v w'=>v=i64 R/\aM G K (L) w'):=by
 refine aP func187 rfl (by kernel_rfl) (by show (1:Nat)<=11;decide) ?_;unfold wM at hm
 refine aJ (dM (v:=zA #[i64 p.Kind,i64 p.Number,bE p.Name,zS a1 p.Arguments.length c2]) (vs:=[i64 p.Kind,i64 p.Number,bE p.Name,zS a1 p.Arguments.length c2]) k rfl rfl (fun q r a=>(aD (v:=i64 0) (aF (aN (aJ (aA (bC (t':=0) eY rfl rfl) (aA (bQ dC a (i:=0) rfl rfl rfl) (aF (bX (zO [4] (fun f w=>∃ b,pS p b=some R/\f 5=zB b/\aM G K (L) w) ?_ ?_)))))))))))
 ·rintro f t ⟨b,hm,j,c⟩
  unfold pS at hm
  rcases aH hm with ⟨d,hm⟩|⟨d,hm⟩
  ·refine aL d j (aJ (aD (v:=i64 1) (aF ?_)));obtain rfl:=zI hm
   exact aX (aY (aK (aO results187 rfl ⟨rfl,c⟩)))
  ·refine aI d j (aJ (aA (cK rfl rfl) (aD (v:=zB (p.Kind == 2)) (aF ?_))))
   rcases aH hm with ⟨e,hm⟩|⟨e,hm⟩
   ·refine aL e rfl (aJ (aD (v:=i64 2) (aF ?_)));obtain rfl:=zI hm
    exact aX (aY (aK (aO results187 rfl ⟨rfl,c⟩)))
   ·refine aI e rfl (aW (bH (aB (aJ (aD (v:=i64 0) (aF ?_))))));obtain rfl:=zI hm
    exact aX (aO results187 rfl ⟨rfl,c⟩)
 refine aJ (aA (cK rfl rfl) (aD (v:=zB (p.Kind == 1)) (aF ?_)))
 rcases aH hm with ⟨g,hm⟩|⟨g,hm⟩
 ·exact aL g rfl (aW (aB ⟨aT,p.Kind == 1,hm,rfl,(aM.arr 1 [] a rfl)⟩))
 ·refine aI g rfl (aJ (aA (cK rfl rfl) (aD (v:=zB (p.Kind == 3)) (aF ?_))))
  rcases aH hm with ⟨h,hm⟩|⟨h,hm⟩
  ·exact aL h rfl (aW (aB ⟨aT,p.Kind == 3,hm,rfl,(aM.arr 1 [] a rfl)⟩))
  ·exact aI h rfl (aU (aA (cK rfl rfl) (aD (v:=zB (p.Kind == 4)) (aF ⟨aT,p.Kind == 4,hm,rfl,(aM.arr 1 [] a rfl)⟩))))
theorem aBd {d:Definition} {part R:Int} (hm:kV d part=some R) (q:aM G K (L) w) (l:bY K a1 c2 d.Body):
  Calls prog 154 ([zA #[bE d.Name,i64 d.Parameters,zS a1 d.Body.length c2],i64 part]:List Value).toArray w (eK fun v w'=>v=i64 R/\aM G K (L) w'):=by
 let m:=[bE d.Name,i64 d.Parameters,zS a1 d.Body.length c2]
 refine aP func154 rfl (by kernel_rfl) (by show (2:Nat)<=25;decide) ?_;unfold kV at hm
 refine aJ (dM (v:=zA #[bE d.Name,i64 d.Parameters,zS a1 d.Body.length c2]) (vs:=m) q rfl rfl (fun r w5 u=>(aD (v:=i64 0) (aF (aN (aJ (aD (v:=i64 1) (aF (bM [] (fun f w=>∃ e,kB e=some R/\f 1=i64 e/\aM G K (L) w) ?_ ?_)))))))))
 ·rintro f w9 ⟨e,hm,x,y⟩
  unfold kB at hm
  refine aB (aJ (bF x (aD (v:=i64 e) (aF ?_))));obtain rfl:=zI hm
  exact aX (aO results154 rfl ⟨rfl,y⟩)
 obtain ⟨b0,J,ho⟩:=aC hm
 refine dD [2] J (fun c h f w=>f 1=i64 c/\f 5=i64 h/\aM G K (box r 104 m::L) w) ?_ ?_
 ·exact ⟨rfl,rfl,u⟩
 ·rintro c h b1 f b2 hm hr ⟨g,n,b⟩
  unfold hQ at hm
  refine aN (aJ (bF n (aA (nN rfl rfl) (aF ?_))))
  rcases aH hm with ⟨j,hm⟩|⟨j,hm⟩
  ·refine aL j rfl (aW (aB (aN (bX (aN (aJ (bF g (aA (bC (t':=2) jJ rfl rfl) (aA (bQ qO b (i:=0) rfl rfl rfl) (aA (bO (len:=d.Body.length) iH rfl) (aA (sO rfl rfl) (aF ?_))))))))))))
   rcases aH hm with ⟨k,hm⟩|⟨k,hm⟩
   ·refine aL k rfl (aJ (aD (v:=i64 (-1)) (aF (aX (aK (aY (aK (aK ?_))))))))
    have V:=hr _ (zI hm).symm
    subst V
    have hm:(some (-1))=some R:=ho
    clear hr ho
    obtain rfl:=zI hm
    exact aY (aK (aK (aO results154 rfl ⟨rfl,(aM.arr 1 [] b rfl)⟩)))
   ·refine aI k rfl (aW (aB (aU (bF n (aA (bC (t':=2) jJ rfl rfl) (aA (bQ qO b (i:=0) rfl rfl rfl) (bF g ?_)))))));obtain ⟨a,o,hm⟩:=aC hm
    refine aA (cG iH rfl l rfl rfl rfl o) ?_;obtain ⟨b3,a0,a2⟩:=bY.el (sz:=4) rfl l o
    obtain ⟨p,c45,rfl,a3⟩:=a2
    refine aA (dZ (t:=0) (vs:=[i64 a.Kind,i64 a.Number,bE a.Name,zS p a.Arguments.length c45]) yD b a0 rfl rfl rfl) ?_;obtain ⟨a4,a5,hm⟩:=aC hm
    refine aQ (vs:=[zA #[i64 a.Kind,i64 a.Number,bE a.Name,zS p a.Arguments.length c45]]) call187 rfl (aEa a5 b a3) ?_
    rintro _ b5 ⟨rfl,a6⟩
    exact aA (iW rfl rfl) (aA (cA rfl rfl) (aD (v:=i64 (wr (h+(wr (a4 - 1))))) (cW (bH (aB (aU (bF g (aA (cA rfl rfl) (aD (v:=i64 (wr (c+1))) (aF ⟨_,(zI hm).symm,aT,rfl,rfl,a6⟩))))))))))
  ·refine aI j rfl (cD (bA (bA ?_)))
   have a7:=hr _ (zI hm).symm
   subst a7
   have hm:(kB c)=some R:=ho
   clear hr ho
   exact bR (aB ⟨aT,c,hm,g,(aM.arr 1 [] b rfl)⟩)
theorem aCw {rec_:Int->eX->(List eX)->Definition->Definition->Option (Int × (List eX))} (ih:∀ {G:qG} {K:Hp} {L:List iU} {w:World} {e:Int} {p:eX} {b1:Nat} {m:(List eX)} {a2:Option Addr} {c3:Nat} {d:Definition} {a4:Option Addr} {r:Nat} {a7:Option Addr} {c8:Nat} {a10:Option Addr} {g:Nat} {b:Definition} {a13:Option Addr} {o:Nat} {a16:Option Addr} {c17:Nat} {R:(Int × (List eX))} (hm:rec_ e p m d b=some R) (hs:aM G K (bN 241 K a2 c3 m::box b1 237 [zS a2 m.length c3]::L) w) (h6:iG K a4 r [bE d.Name,i64 d.Parameters,zS a7 d.Body.length c8]) (h9:bY K a7 c8 d.Body) (b4:iG K a10 g [Value.func (.func 213) #[] #[zP (some ⟨b1,0,none⟩),eP a13 o,eP a10 g]]) (b5:iG K a13 o [bE b.Name,i64 b.Parameters,zS a16 b.Body.length c17]) (b6:bY K a16 c17 b.Body),
  Calls prog 213 ([i64 e,zA #[i64 p.scope,zB p.behind],zP (some ⟨b1,0,none⟩),eP a4 r,eP a10 g]:List Value).toArray w (eK fun v w'=>∃ z J,v=i64 R.1/\aM G K (bN 241 K z J R.2::box b1 237 [zS z R.2.length J]::L) w'))
  {G:qG} {K:Hp} {L:List iU} {w:World} {e:Int} {p:eX} {b1:Nat} {m:(List eX)} {a2:Option Addr} {c3:Nat} {d:Definition} {a4:Option Addr} {r:Nat} {a7:Option Addr} {c8:Nat} {a10:Option Addr} {g:Nat} {b:Definition} {a13:Option Addr} {o:Nat} {a16:Option Addr} {c17:Nat} {R:(Int × (List eX))} (hm:fE rec_ e p m d b=some R) (hs:aM G K (bN 241 K a2 c3 m::box b1 237 [zS a2 m.length c3]::L) w) (h6:iG K a4 r [bE d.Name,i64 d.Parameters,zS a7 d.Body.length c8]) (h9:bY K a7 c8 d.Body) (b4:iG K a10 g [Value.func (.func 213) #[] #[zP (some ⟨b1,0,none⟩),eP a13 o,eP a10 g]]) (b5:iG K a13 o [bE b.Name,i64 b.Parameters,zS a16 b.Body.length c17]) (b6:bY K a16 c17 b.Body):
  Calls prog 213 ([i64 e,zA #[i64 p.scope,zB p.behind],zP (some ⟨b1,0,none⟩),eP a4 r,eP a10 g]:List Value).toArray w (eK fun v w'=>∃ z J,v=i64 R.1/\aM G K (bN 241 K z J R.2::box b1 237 [zS z R.2.length J]::L) w'):=by
 let n:=[i64 p.scope,zB p.behind]
 refine aP func213 rfl (by kernel_rfl) (by show (5:Nat)<=45;decide) ?_;unfold fE at hm
 refine aJ (dM (v:=zA #[i64 p.scope,zB p.behind]) (vs:=n) hs rfl rfl (fun V f8 a0=>(aD (v:=i64 0) (aF (aJ (aA (bQ sc_237 a0 (i:=2) rfl rfl rfl) (aG (v:=i64 e) (aA (fQ (us:=n) ag_241 a0 (i:=0) rfl rfl rfl rfl) ?_))))))));obtain ⟨f9,b7,hm⟩:=aC hm
 have d3:=gC a0 (i:=1) rfl b7
 refine aA (fT sl_237 rfl d3 rfl rfl rfl b7) ?_;obtain ⟨c,c5,hm⟩:=aC hm
 refine oZ (i:=1) (t:=0) (ns:=n) (e':=(⟨p.scope,p.behind⟩:eX)) sizeOf241 a0 rfl (Hp.le_refl _) rfl rfl rfl b7 c5 rfl rfl (gJ rfl) rfl (fun cs h=>by cases h;rfl) (fun c6 (d4:aM G K (box V 241 n::bN 241 K a2 c3 c::box b1 237 [zS a2 m.length c3]::L) c6)=>?_)
 have b8:aM G K (box V 241 n::bN 241 K a2 c3 c::box b1 237 [zS a2 c.length c3]::L) c6:=by rw [←(cE c5)];exact d4
 refine aF (aJ (aA (cH (k':=r+2) jJ rfl h6 rfl) (aA (cC (t:=2) qO b8 h6 rfl rfl) (aG (v:=i64 e) ?_))));obtain ⟨a,c7,hm⟩:=aC hm
 refine aA (cG iH rfl h9 rfl rfl rfl c7) ?_;obtain ⟨g0,d5,d6⟩:=bY.el (sz:=4) rfl h9 c7
 obtain ⟨j,k,rfl,d7⟩:=d6
 refine aA (dZ (t:=0) (vs:=[i64 a.Kind,i64 a.Number,bE a.Name,zS j a.Arguments.length k]) yD b8 d5 rfl rfl rfl) (eA (vs:=[i64 0,i64 0,bE ([]:bJ),zS none 0 0]) zeroValue152 b8 rfl (fun a1 g1 d8=>(eD (i:=0) (ns:=[i64 a.Kind,i64 a.Number,bE a.Name,zS j a.Arguments.length k]) (us:=[i64 a.Kind,i64 a.Number,bE a.Name,zS j a.Arguments.length k]) sizeOf152 d8 rfl rfl rfl rfl rfl (gJ rfl) rfl rfl (fun d9 (b9:aM G K (box a1 152 [i64 a.Kind,i64 a.Number,bE a.Name,zS j a.Arguments.length k]::box V 241 n::bN 241 K a2 c3 c::box b1 237 [zS a2 c.length c3]::L) d9)=>(aF (aJ (aA (bC (t':=0) aGS rfl rfl) (aA (bQ dC b9 (i:=1) rfl rfl rfl) (aA (bC (t':=0) eY rfl rfl) (aA (bQ dC b9 (i:=0) rfl rfl rfl) (aA (cK rfl rfl) (aA (lQ (vs:=[(0,i64 p.scope),(1,zB (a.Kind == 1))]) (cs:=[i64 p.scope,zB (a.Kind == 1)]) bs_241 rfl (by kernel_rfl)) (eA (vs:=[i64 0,zB false]) zeroValue241 b9 rfl (fun O g2 e0=>(eD (i:=0) (ns:=[i64 p.scope,zB (a.Kind == 1)]) (us:=[i64 p.scope,zB (a.Kind == 1)]) sizeOf241 e0 rfl rfl rfl rfl rfl (gJ rfl) rfl rfl (fun e1 (a3:aM G K (box O 241 [i64 p.scope,zB (a.Kind == 1)]::box a1 152 [i64 a.Kind,i64 a.Number,bE a.Name,zS j a.Arguments.length k]::box V 241 n::bN 241 K a2 c3 c::box b1 237 [zS a2 c.length c3]::L) e1)=>(aF (zO [0,4,8,9] (fun f w=>∃ l,eG rec_ e b c a l=some R/\aM G K (box O 241 [i64 l,zB (a.Kind == 1)]::box a1 152 [i64 a.Kind,i64 a.Number,bE a.Name,zS j a.Arguments.length k]::bN 241 K a2 c3 c::box b1 237 [zS a2 c.length c3]::L) w) ?_ ?_))))))))))))))))))
 ·rintro f g3 ⟨l,hm,c9⟩
  unfold eG at hm
  refine aJ (aG (v:=i64 e) (aA (cA rfl rfl) (aD (v:=i64 (wr (e+1))) (aF (aN (aJ (aA (fQ (us:=[i64 a.Kind,i64 a.Number,bE a.Name,zS j a.Arguments.length k]) yD c9 (i:=1) rfl rfl rfl rfl) ?_)))))));obtain ⟨g4,e2,hm⟩:=aC hm
  refine aQ (vs:=[zA #[i64 a.Kind,i64 a.Number,bE a.Name,zS j a.Arguments.length k]]) call187 rfl (aEa e2 c9 d7) ?_
  rintro _ g5 ⟨rfl,e3⟩
  refine aG (v:=i64 0) (aF (bM [] (fun f w=>∃ a5 a6 a8 a9,gR a5 a6=some R/\f 10=i64 a5/\aM G K (bN 241 K a8 a9 a6::box b1 237 [zS a8 a6.length a9]::L) w) ?_ ?_))
  ·rintro f g6 ⟨a5,a6,a8,a9,hm,e4,e5⟩
   unfold gR at hm
   refine aB (aJ (bF e4 (aD (v:=i64 a5) (aF ?_))));obtain rfl:=zI hm
   exact aX (aO results213 rfl ⟨a8,a9,rfl,e5⟩)
  obtain ⟨g7,e7,ho⟩:=aC hm
  refine jP [4,9,36] e7 (fun u c0 q f w=>∃ x y,f 10=i64 u/\f 37=i64 c0/\aM G K (box O 241 [i64 l,zB (a.Kind == 1)]::bN 241 K x y q::box b1 237 [zS x q.length y]::L) w) ?_ ?_
  ·exact ⟨a2,c3,rfl,rfl,(aM.arr 2 [0] e3 rfl)⟩
  ·rintro u c0 q g8 f e8 hm hr ⟨x,y,d0,d1,b0⟩
   unfold fZ at hm
   refine aJ (aA (cF d1 rfl) (aF (aN ?_)))
   rcases aH hm with ⟨c1,hm⟩|⟨c1,hm⟩
   ·refine aL c1 rfl (aW (aB (aN (bX (aU (aA (cC (t:=0) sc_278 b0 b4 rfl rfl) (bF d0 (aA (fQ (us:=[i64 l,zB (a.Kind == 1)]) ag_241 b0 (i:=0) rfl rfl rfl rfl) ?_))))))))
    have e9:aM G K (bN 241 K x y q::box b1 237 [zS x q.length y]::box O 241 [i64 l,zB (a.Kind == 1)]::L) e8:=(aM.arr 3 [1,2,0] b0 rfl)
    obtain ⟨f0,f1,hm⟩:=aC hm
    refine sZ (vs:=[i64 u,zA #[i64 l,zB (a.Kind == 1)]]) (caps:=[zP (some ⟨b1,0,none⟩),eP a13 o,eP a10 g]) (us:=[i64 u,zA #[i64 l,zB (a.Kind == 1)],zP (some ⟨b1,0,none⟩),eP a13 o,eP a10 g]) rfl call213 rfl rfl (ih (p:=⟨l,a.Kind == 1⟩) f1 e9 b5 b6 b4 b5 b6) ?_
    rintro _ g9 ⟨f2,f3,rfl,f4⟩
    exact aD (v:=i64 f0.1) (cW (bH (aB (aU (aA (cA d1 rfl) (aG (v:=i64 (wr (c0+1))) (aF ⟨_,(zI hm).symm,aT,f2,f3,rfl,rfl,(aM.arr 3 [2,0,1] f4 rfl)⟩)))))))
   ·refine aI c1 rfl (cD (bA (bA ?_)))
    have f5:=hr _ (zI hm).symm
    subst f5
    have hm:(gR u q)=some R:=ho
    clear hr ho
    exact bR (aB ⟨aT,u,q,x,y,hm,d0,(aM.arr 1 [] b0 rfl)⟩)
 refine aJ (aA (bC (t':=0) eY rfl rfl) (aA (bQ dC a3 (i:=1) rfl rfl rfl) (aA (cK rfl rfl) (aF ?_))))
 rcases aH hm with ⟨c2,hm⟩|⟨c2,hm⟩
 ·exact aL c2 rfl (aU (aA (bC (t':=0) aGS rfl rfl) (aA (bQ dC a3 (i:=0) rfl rfl rfl) (aA (cA rfl rfl) (aA (bC (t':=0) aGS rfl rfl) (eD (i:=0) (ns:=[i64 (wr (p.scope+1))]) (us:=[i64 (wr (p.scope+1)),zB (a.Kind == 1)]) sizeOf2 a3 rfl rfl rfl rfl rfl (gJ rfl) rfl rfl (fun f6 (f7:aM G K (box O 241 [i64 (wr (p.scope+1)),zB (a.Kind == 1)]::box a1 152 [i64 a.Kind,i64 a.Number,bE a.Name,zS j a.Arguments.length k]::box V 241 n::bN 241 K a2 c3 c::box b1 237 [zS a2 c.length c3]::L) f6)=>(aF ⟨aT,wr (p.scope+1),hm,(aM.arr 3 [0,1] f7 rfl)⟩))))))))
 ·exact aI c2 rfl (aW (aB ⟨aT,p.scope,hm,(aM.arr 3 [0,1] a3 rfl)⟩))
theorem aCx (n:Nat):∀ {G:qG} {K:Hp} {L:List iU} {w:World} {l:Int} {p:eX} {b1:Nat} {c:(List eX)} {a2:Option Addr} {c3:Nat} {a:Definition} {a4:Option Addr} {m:Nat} {a7:Option Addr} {c8:Nat} {a10:Option Addr} {d:Nat} {b:Definition} {a13:Option Addr} {o:Nat} {a16:Option Addr} {c17:Nat} {R:(Int × (List eX))} (hm:dS n l p c a b=some R) (e:aM G K (bN 241 K a2 c3 c::box b1 237 [zS a2 c.length c3]::L) w) (g:iG K a4 m [bE a.Name,i64 a.Parameters,zS a7 a.Body.length c8]) (h:bY K a7 c8 a.Body) (i:iG K a10 d [Value.func (.func 213) #[] #[zP (some ⟨b1,0,none⟩),eP a13 o,eP a10 d]]) (j:iG K a13 o [bE b.Name,i64 b.Parameters,zS a16 b.Body.length c17]) (k:bY K a16 c17 b.Body),
  Calls prog 213 ([i64 l,zA #[i64 p.scope,zB p.behind],zP (some ⟨b1,0,none⟩),eP a4 m,eP a10 d]:List Value).toArray w (eK fun v w'=>∃ q r,v=i64 R.1/\aM G K (bN 241 K q r R.2::box b1 237 [zS q R.2.length r]::L) w'):=by
 induction n with
 |zero=>
  intro G K L w l p b1 c a2 c3 a a4 m a7 c8 a10 d b a13 o a16 c17 R hm e g h i j k
  unfold dS at hm
  cases hm
 |succ n ih=>
  intro G K L w l p b1 c a2 c3 a a4 m a7 c8 a10 d b a13 o a16 c17 R hm e g h i j k
  exact aCw (rec_:=dS n) (fun hm e g h i j k=>ih hm e g h i j k) hm e g h i j k
theorem aDo {at_:Int} {p:eX} {p':(List eX)} {p'':Definition} {k5 k11:Nat} {p_c1_:Definition} {k14:Nat} {R:(Int × (List eX))} (hm:qW at_ p p' p'' p_c1_=some R) (hs:aM G K (bN 241 K a2 c3 p'::box b1 237 [zS a2 p'.length c3]::L) w) (h6:iG K a4 k5 [bE p''.Name,i64 p''.Parameters,zS a7 p''.Body.length c8]) (h9:bY K a7 c8 p''.Body) (h12:iG K a10 k11 [Value.func (.func 213) #[] #[zP (some ⟨b1,0,none⟩),eP a13 k14,eP a10 k11]]) (h15:iG K a13 k14 [bE p_c1_.Name,i64 p_c1_.Parameters,zS a16 p_c1_.Body.length c17]) (h18:bY K a16 c17 p_c1_.Body):
  Calls prog 213 ([i64 at_,zA #[i64 p.scope,zB p.behind],zP (some ⟨b1,0,none⟩),eP a4 k5,eP a10 k11]:List Value).toArray w (eK fun v w'=>∃ ra0 rc0,v=i64 R.1/\aM G K (bN 241 K ra0 rc0 R.2::box b1 237 [zS ra0 R.2.length rc0]::L) w'):=aCx 100000 hm hs h6 h9 h12 h15 h18
theorem aEQ {d:Definition} {R:(List eX)} (hm:mD d=some R) (J:aM G K (L) w) (m:bY K a1 c2 d.Body):
  Calls prog 181 ([zA #[bE d.Name,i64 d.Parameters,zS a1 d.Body.length c2]]:List Value).toArray w (eK fun v w'=>∃ n o,v=zS n R.length o/\aM G K (bN 241 K n o R::L) w'):=by
 let j:=[bE d.Name,i64 d.Parameters,zS a1 d.Body.length c2]
 refine aP func181 rfl (by kernel_rfl) (by show (1:Nat)<=16;decide) ?_;unfold mD at hm
 refine aJ (dM (v:=zA #[bE d.Name,i64 d.Parameters,zS a1 d.Body.length c2]) (vs:=j) J rfl rfl (fun b w5 q=>(aD (v:=zS none 0 0) (aF (aJ (aA (bC (t':=2) jJ rfl rfl) (aA (bQ qO q (i:=0) rfl rfl rfl) (aA (bO (len:=d.Body.length) iH rfl) ?_))))))));obtain ⟨a,V,hm⟩:=aC hm
 refine aLM (e:=(⟨0,false⟩:eX)) sl_237 ez_241 rfl rfl q rfl rfl rfl V rfl (fun g O (a0:aM G K (bN 241 K g a.length a::box b 104 j::L) O)=>(eA (vs:=[zS none 0 0]) zeroValue237 a0 rfl (fun c c1 a2=>(eD (i:=0) (ns:=[zS g a.length a.length]) (us:=[zS g a.length a.length]) sizeOf237 a2 rfl rfl rfl rfl rfl (gJ rfl) rfl rfl (fun a3 (a4:aM G K (box c 237 [zS g a.length a.length]::bN 241 K g a.length a::box b 104 j::L) a3)=>(aF (aJ (eA (vs:=[Value.nilFunc]) zeroValue278 a4 rfl (fun h c3 a5=>(aF (aJ (aA (yA (vs:=[zP (some ⟨c,0,none⟩),zP (some ⟨b,0,none⟩),zP (some ⟨h,0,none⟩)]) rfl) (eD (i:=0) (ns:=[Value.func (.func 213) #[] #[zP (some ⟨c,0,none⟩),zP (some ⟨b,0,none⟩),zP (some ⟨h,0,none⟩)]]) (us:=[Value.func (.func 213) #[] #[zP (some ⟨c,0,none⟩),zP (some ⟨b,0,none⟩),zP (some ⟨h,0,none⟩)]]) sizeOf278 a5 rfl rfl rfl rfl rfl (gJ rfl) rfl rfl (fun r (l:aM G K (box h 278 [Value.func (.func 213) #[] #[zP (some ⟨c,0,none⟩),zP (some ⟨b,0,none⟩),zP (some ⟨h,0,none⟩)]]::box c 237 [zS g a.length a.length]::bN 241 K g a.length a::box b 104 j::L) r)=>(aF (aJ (aA (bQ sc_278 l (i:=0) rfl rfl rfl) (aA (bC (t':=1) rE rfl rfl) (aA (bQ dC l (i:=3) rfl rfl rfl) (aA (lQ (vs:=[(0,i64 d.Parameters)]) (cs:=[i64 d.Parameters,zB false]) bs_241 rfl (by kernel_rfl)) ?_))))))))))))))))))))
 obtain ⟨c4,t,u,a6,a7⟩:=aM.lendBp l zt3
 obtain ⟨a8,k,b0,b1,b2⟩:=aM.lendBp a6 .head
 have b3:aM G a8 (bN 241 K g a.length a::box c 237 [zS g a.length a.length]::L) r:=(aM.arr 2 [1,0] b1 rfl)
 obtain ⟨b5,b6,hm⟩:=aC hm
 refine sZ (vs:=[i64 0,zA #[i64 d.Parameters,zB false]]) (caps:=[zP (some ⟨c,0,none⟩),eP (some ⟨b,0,none⟩) 0,eP (some ⟨h,0,none⟩) 0]) (us:=[i64 0,zA #[i64 d.Parameters,zB false],zP (some ⟨c,0,none⟩),eP (some ⟨b,0,none⟩) 0,eP (some ⟨h,0,none⟩) 0]) rfl call213 rfl rfl (aDo (p:=⟨d.Parameters,false⟩) b6 b3 (u.mono k) (m.mono (Hp.le_trans t k)) (show iG _ _ _ [Value.func (.func 213) #[] #[zP (some ⟨c,0,none⟩),eP (some ⟨b,0,none⟩) 0,eP (some ⟨h,0,none⟩) 0]] from b0) (u.mono k) (m.mono (Hp.le_trans t k))) ?_
 rintro _ c5 ⟨x,y,rfl,b7⟩
 have b8:=b2 _ _ b7
 have z:=a7 _ _ b8
 refine aF (aJ (aA (bQ sc_237 z (i:=3) rfl rfl rfl) (aD (v:=zS x b5.2.length y) (aF ?_))));obtain rfl:=zI hm
 exact aX (aO results181 rfl ⟨x,y,rfl,(aM.arr 4 [2] z rfl)⟩)
theorem aGh {i many:Int} {R:Bool} (hm:aGb i many=some R) (a:aM G K (L) w):
  Calls prog 146 ([i64 i,i64 many]:List Value).toArray w (eK fun v w'=>v=zB R/\aM G K (L) w'):=by
 refine aP func146 rfl (by kernel_rfl) (by show (2:Nat)<=9;decide) ?_;unfold aGb at hm
 refine aJ (aD (v:=zB false) (aF (aJ (aG (v:=i64 i) (aG (v:=i64 many) (aA (iW rfl rfl) ?_))))));obtain ⟨b,c,hm⟩:=aC hm
 refine aQ (vs:=[i64 i,i64 0,i64 (wr (many - 1))]) call58 rfl (fK c a) ?_
 rintro _ g ⟨rfl,d⟩
 refine aD (v:=zB b) (aF ?_);obtain rfl:=zI hm
 exact aX (aO results146 rfl ⟨rfl,d⟩)
theorem nS {s_:bJ} {R:Bool} (hm:oN s_=some R) (d:aM G K (L) w):
  Calls prog 148 ([bE s_]:List Value).toArray w (eK fun v w'=>v=zB R/\aM G K (L) w'):=by
 refine aP func148 rfl (by kernel_rfl) (by show (1:Nat)<=9;decide) ?_;unfold oN at hm
 refine aJ (aD (v:=zB false) (aF (aN (cP [] (fun f w=>∃ b,wN b=some R/\f 2=zB b/\aM G K (L) w) ?_ ?_))))
 ·rintro f l ⟨b,hm,e,h⟩
  unfold wN at hm
  refine aB ?_;obtain rfl:=zI hm
  exact aX (aO results148 rfl ⟨e,h⟩)
 refine aU (aG (v:=bE s_) ?_);obtain ⟨j,k,hm⟩:=aC hm
 refine aQ (vs:=[bE s_]) call142 rfl (aIo k d) ?_
 rintro _ m ⟨rfl,c⟩
 refine aG (v:=zB j) ?_
 rcases aH hm with ⟨a,hm⟩|⟨a,hm⟩
 ·exact bB a rfl rfl (aG (v:=bE s_) (bB a rfl rfl (aA (vO rfl rfl) (aA (bI (v:=zB (!(s_ == ([116,97,117]:bJ)))) a rfl rfl) (aD (v:=zB (!(s_ == ([116,97,117]:bJ)))) (aF ⟨aT,!(s_ == ([116,97,117]:bJ)),hm,rfl,c⟩))))))
 ·exact aV a rfl rfl (aV a rfl rfl (aA (bL (v:=zB false) a rfl rfl) (aD (v:=zB false) (aF ⟨aT,false,hm,rfl,c⟩))))
end Gv
namespace Gv
open Gv.Hp renaming le_refl→zR
open Go.Value renaming slice→zS,bool→zB,agg→zA
open Option.some renaming inj→zI
open Go Go.Proofs Go.Proofs.Tryz
set_option maxRecDepth 20000
set_option maxHeartbeats 40000000
variable {G:qG} {K:Hp} {L:List iU} {w:World} {a1 a4:Option Addr} {c2 c5:Nat}
theorem aIC {p:Part} {R:Bool} (hm:wO p=some R) (hs:aM G K (L) w) (h3:bY K a1 c2 p.Arguments):
  Calls prog 214 ([zA #[i64 p.Kind,i64 p.Number,bE p.Name,zS a1 p.Arguments.length c2]]:List Value).toArray w (eK fun v w'=>v=zB R/\aM G K (L) w'):=by
 let V:=[i64 p.Kind,i64 p.Number,bE p.Name,zS a1 p.Arguments.length c2]
 refine aP func214 rfl (by kernel_rfl) (by show (1:Nat)<=56;decide) ?_;unfold wO at hm
 refine aJ (dM (v:=zA #[i64 p.Kind,i64 p.Number,bE p.Name,zS a1 p.Arguments.length c2]) (vs:=V) hs rfl rfl (fun b4 w5 z=>(aD (v:=zB false) (aF (aN (cP [1] (fun f w=>∃ y,pT p y=some R/\f 3=zB y/\aM G K (box b4 152 V::L) w) ?_ ?_))))))
 ·rintro f w9 ⟨y,hm,e8,x⟩
  unfold pT at hm
  refine aB (aN (cP [1,3] (fun f w=>∃ u,mQ p y u=some R/\f 4=zB u/\aM G K (box b4 152 V::L) w) ?_ ?_))
  ·rintro f b3 ⟨u,hm,J,a2⟩
   unfold mQ at hm
   refine aB (aN (cP [] (fun f w=>∃ O,fB O=some R/\f 2=zB O/\aM G K (L) w) ?_ ?_))
   ·rintro f b5 ⟨O,hm,a5,a6⟩
    unfold fB at hm
    refine aB ?_;obtain rfl:=zI hm
    exact aX (aO results214 rfl ⟨a5,a6⟩)
   refine aU (aA (bC (t':=0) eY rfl rfl) (aA (bQ dC a2 (i:=0) rfl rfl rfl) ?_));obtain ⟨a8,a9,hm⟩:=aC hm
   refine aQ (vs:=[i64 p.Kind,i64 0,i64 5]) call58 rfl (fK a9 a2) ?_
   rintro _ b6 ⟨rfl,a⟩
   refine aG (v:=zB a8) ?_
   rcases aH hm with ⟨c,hm⟩|⟨c,hm⟩
   ·refine bB c rfl rfl (bF e8 (bB c rfl rfl (aG (v:=zB y) ?_)))
    rcases aH hm with ⟨m,hm⟩|⟨m,hm⟩
    ·refine aR m rfl rfl (aR m rfl rfl (aR m rfl rfl (bB c rfl rfl (aA (bI (v:=zB true) m rfl rfl) (aA (bI (v:=zB true) c rfl rfl) (aG (v:=zB true) (bB (rfl:true=true) rfl rfl (aA (bC (t':=0) eY rfl rfl) (bB (rfl:true=true) rfl rfl (aA (bQ dC a (i:=0) rfl rfl rfl) (bB (rfl:true=true) rfl rfl (aA (cK rfl rfl) (bB (rfl:true=true) rfl rfl (aG (v:=zB (p.Kind == 1)) ?_))))))))))))))
     rcases aH hm with ⟨n,hm⟩|⟨n,hm⟩
     ·refine aR n rfl rfl (aR n rfl rfl (aR n rfl rfl (bB (rfl:true=true) rfl rfl (aA (bI (v:=zB true) n rfl rfl) (aA (bI (v:=zB true) (rfl:true=true) rfl rfl) (aG (v:=zB true) (bB (rfl:true=true) rfl rfl (bF J (bB (rfl:true=true) rfl rfl (aG (v:=zB u) ?_))))))))))
      rcases aH hm with ⟨d,hm⟩|⟨d,hm⟩
      ·exact aR d rfl rfl (aR d rfl rfl (aR d rfl rfl (aR d rfl rfl (bB (rfl:true=true) rfl rfl (aA (bI (v:=zB true) d rfl rfl) (aA (bI (v:=zB true) (rfl:true=true) rfl rfl) (aD (v:=zB true) (aF ⟨aT,true,hm,rfl,(aM.arr 1 [] a rfl)⟩))))))))
      ·exact bD d rfl rfl (aA (bC (t':=3) jI rfl rfl) (bD d rfl rfl (aA (bQ qN a (i:=0) rfl rfl rfl) (bD d rfl rfl (aA (bO (len:=p.Arguments.length) lE rfl) (bD d rfl rfl (aA (cK rfl rfl) (bB (rfl:true=true) rfl rfl (aA (bL (v:=zB ((p.Arguments.length:Int) == 0)) d rfl rfl) (aA (bI (v:=zB ((p.Arguments.length:Int) == 0)) (rfl:true=true) rfl rfl) (aD (v:=zB ((p.Arguments.length:Int) == 0)) (aF ⟨aT,(p.Arguments.length:Int) == 0,hm,rfl,(aM.arr 1 [] a rfl)⟩))))))))))))
     ·refine bD n rfl rfl (aA (bC (t':=2) lD rfl rfl) (bD n rfl rfl (aA (bQ fA a (i:=0) rfl rfl rfl) (bD n rfl rfl (aA (kS rfl rfl) (bB (rfl:true=true) rfl rfl (aA (bL (v:=zB (p.Name == ([]:bJ))) n rfl rfl) (aA (bI (v:=zB (p.Name == ([]:bJ))) (rfl:true=true) rfl rfl) (aG (v:=zB (p.Name == ([]:bJ))) ?_)))))))))
      rcases aH hm with ⟨e,hm⟩|⟨e,hm⟩
      ·refine bB e rfl rfl (bF J (bB e rfl rfl (aG (v:=zB u) ?_)))
       rcases aH hm with ⟨h,hm⟩|⟨h,hm⟩
       ·exact aR h rfl rfl (aR h rfl rfl (aR h rfl rfl (aR h rfl rfl (bB e rfl rfl (aA (bI (v:=zB true) h rfl rfl) (aA (bI (v:=zB true) e rfl rfl) (aD (v:=zB true) (aF ⟨aT,true,hm,rfl,(aM.arr 1 [] a rfl)⟩))))))))
       ·exact bD h rfl rfl (aA (bC (t':=3) jI rfl rfl) (bD h rfl rfl (aA (bQ qN a (i:=0) rfl rfl rfl) (bD h rfl rfl (aA (bO (len:=p.Arguments.length) lE rfl) (bD h rfl rfl (aA (cK rfl rfl) (bB e rfl rfl (aA (bL (v:=zB ((p.Arguments.length:Int) == 0)) h rfl rfl) (aA (bI (v:=zB ((p.Arguments.length:Int) == 0)) e rfl rfl) (aD (v:=zB ((p.Arguments.length:Int) == 0)) (aF ⟨aT,(p.Arguments.length:Int) == 0,hm,rfl,(aM.arr 1 [] a rfl)⟩))))))))))))
      ·exact aV e rfl rfl (aV e rfl rfl (cL (g:=49) rfl rfl (cL (g:=49) rfl rfl (cL (g:=49) rfl rfl (cL (g:=49) rfl rfl (aV e rfl rfl (aA (bL (v:=zB false) e rfl rfl) (aD (v:=zB false) (aF ⟨aT,false,hm,rfl,(aM.arr 1 [] a rfl)⟩)))))))))
    ·refine bD m rfl rfl (aA (bC (t':=1) jH rfl rfl) (bD m rfl rfl (aA (bQ dC a (i:=0) rfl rfl rfl) (bD m rfl rfl (aA (cK rfl rfl) (bB c rfl rfl (aA (bL (v:=zB (p.Number == 0)) m rfl rfl) (aA (bI (v:=zB (p.Number == 0)) c rfl rfl) (aG (v:=zB (p.Number == 0)) ?_)))))))))
     rcases aH hm with ⟨b,hm⟩|⟨b,hm⟩
     ·refine bB b rfl rfl (aA (bC (t':=0) eY rfl rfl) (bB b rfl rfl (aA (bQ dC a (i:=0) rfl rfl rfl) (bB b rfl rfl (aA (cK rfl rfl) (bB b rfl rfl (aG (v:=zB (p.Kind == 1)) ?_)))))))
      rcases aH hm with ⟨o,hm⟩|⟨o,hm⟩
      ·refine aR o rfl rfl (aR o rfl rfl (aR o rfl rfl (bB b rfl rfl (aA (bI (v:=zB true) o rfl rfl) (aA (bI (v:=zB true) b rfl rfl) (aG (v:=zB true) (bB (rfl:true=true) rfl rfl (bF J (bB (rfl:true=true) rfl rfl (aG (v:=zB u) ?_))))))))))
       rcases aH hm with ⟨j,hm⟩|⟨j,hm⟩
       ·exact aR j rfl rfl (aR j rfl rfl (aR j rfl rfl (aR j rfl rfl (bB (rfl:true=true) rfl rfl (aA (bI (v:=zB true) j rfl rfl) (aA (bI (v:=zB true) (rfl:true=true) rfl rfl) (aD (v:=zB true) (aF ⟨aT,true,hm,rfl,(aM.arr 1 [] a rfl)⟩))))))))
       ·exact bD j rfl rfl (aA (bC (t':=3) jI rfl rfl) (bD j rfl rfl (aA (bQ qN a (i:=0) rfl rfl rfl) (bD j rfl rfl (aA (bO (len:=p.Arguments.length) lE rfl) (bD j rfl rfl (aA (cK rfl rfl) (bB (rfl:true=true) rfl rfl (aA (bL (v:=zB ((p.Arguments.length:Int) == 0)) j rfl rfl) (aA (bI (v:=zB ((p.Arguments.length:Int) == 0)) (rfl:true=true) rfl rfl) (aD (v:=zB ((p.Arguments.length:Int) == 0)) (aF ⟨aT,(p.Arguments.length:Int) == 0,hm,rfl,(aM.arr 1 [] a rfl)⟩))))))))))))
      ·refine bD o rfl rfl (aA (bC (t':=2) lD rfl rfl) (bD o rfl rfl (aA (bQ fA a (i:=0) rfl rfl rfl) (bD o rfl rfl (aA (kS rfl rfl) (bB b rfl rfl (aA (bL (v:=zB (p.Name == ([]:bJ))) o rfl rfl) (aA (bI (v:=zB (p.Name == ([]:bJ))) b rfl rfl) (aG (v:=zB (p.Name == ([]:bJ))) ?_)))))))))
       rcases aH hm with ⟨k,hm⟩|⟨k,hm⟩
       ·refine bB k rfl rfl (bF J (bB k rfl rfl (aG (v:=zB u) ?_)))
        rcases aH hm with ⟨l,hm⟩|⟨l,hm⟩
        ·exact aR l rfl rfl (aR l rfl rfl (aR l rfl rfl (aR l rfl rfl (bB k rfl rfl (aA (bI (v:=zB true) l rfl rfl) (aA (bI (v:=zB true) k rfl rfl) (aD (v:=zB true) (aF ⟨aT,true,hm,rfl,(aM.arr 1 [] a rfl)⟩))))))))
        ·exact bD l rfl rfl (aA (bC (t':=3) jI rfl rfl) (bD l rfl rfl (aA (bQ qN a (i:=0) rfl rfl rfl) (bD l rfl rfl (aA (bO (len:=p.Arguments.length) lE rfl) (bD l rfl rfl (aA (cK rfl rfl) (bB k rfl rfl (aA (bL (v:=zB ((p.Arguments.length:Int) == 0)) l rfl rfl) (aA (bI (v:=zB ((p.Arguments.length:Int) == 0)) k rfl rfl) (aD (v:=zB ((p.Arguments.length:Int) == 0)) (aF ⟨aT,(p.Arguments.length:Int) == 0,hm,rfl,(aM.arr 1 [] a rfl)⟩))))))))))))
       ·exact aV k rfl rfl (aV k rfl rfl (cL (g:=49) rfl rfl (cL (g:=49) rfl rfl (cL (g:=49) rfl rfl (cL (g:=49) rfl rfl (aV k rfl rfl (aA (bL (v:=zB false) k rfl rfl) (aD (v:=zB false) (aF ⟨aT,false,hm,rfl,(aM.arr 1 [] a rfl)⟩)))))))))
     ·exact aV b rfl rfl (aV b rfl rfl (aV b rfl rfl (aV b rfl rfl (cL (g:=41) rfl rfl (cL (g:=41) rfl rfl (cL (g:=41) rfl rfl (aV b rfl rfl (aA (bL (v:=zB false) b rfl rfl) (aG (v:=zB false) (aV (by decide:¬ false=true) rfl rfl (aV (by decide:¬ false=true) rfl rfl (cL (g:=49) rfl rfl (cL (g:=49) rfl rfl (cL (g:=49) rfl rfl (cL (g:=49) rfl rfl (aV (by decide:¬ false=true) rfl rfl (aA (bL (v:=zB false) (by decide:¬ false=true) rfl rfl) (aD (v:=zB false) (aF ⟨aT,false,hm,rfl,(aM.arr 1 [] a rfl)⟩)))))))))))))))))))
   ·refine aV c rfl rfl (aV c rfl rfl (cL (g:=31) rfl rfl (cL (g:=31) rfl rfl (cL (g:=31) rfl rfl (aV c rfl rfl (aA (bL (v:=zB false) c rfl rfl) (aG (v:=zB false) (aV (by decide:¬ false=true) rfl rfl (aV (by decide:¬ false=true) rfl rfl (aV (by decide:¬ false=true) rfl rfl (aV (by decide:¬ false=true) rfl rfl (cL (g:=41) rfl rfl (cL (g:=41) rfl rfl (cL (g:=41) rfl rfl (aV (by decide:¬ false=true) rfl rfl (aA (bL (v:=zB false) (by decide:¬ false=true) rfl rfl) (aG (v:=zB false) (aV (by decide:¬ false=true) rfl rfl (aV (by decide:¬ false=true) rfl rfl (cL (g:=49) rfl rfl (cL (g:=49) rfl rfl (cL (g:=49) rfl rfl (cL (g:=49) rfl rfl ?_)))))))))))))))))))))))
    exact aV (by decide:¬ false=true) rfl rfl (aA (bL (v:=zB false) (by decide:¬ false=true) rfl rfl) (aD (v:=zB false) (aF ⟨aT,false,hm,rfl,(aM.arr 1 [] a rfl)⟩)))
  refine aU (aA (bC (t':=0) eY rfl rfl) (aA (bQ dC x (i:=0) rfl rfl rfl) (aA (cK rfl rfl) (aG (v:=zB (p.Kind == 1)) ?_))))
  rcases aH hm with ⟨q,hm⟩|⟨q,hm⟩
  ·exact aR q rfl rfl (aR q rfl rfl (aR q rfl rfl (aA (bI (v:=zB true) q rfl rfl) (aG (v:=zB true) (aR (rfl:true=true) rfl rfl (aR (rfl:true=true) rfl rfl (aR (rfl:true=true) rfl rfl (aA (bI (v:=zB true) (rfl:true=true) rfl rfl) (aD (v:=zB true) (aF ⟨aT,true,hm,rfl,x⟩))))))))))
  ·refine bD q rfl rfl (aA (bC (t':=0) eY rfl rfl) (bD q rfl rfl (aA (bQ dC x (i:=0) rfl rfl rfl) (bD q rfl rfl (aA (cK rfl rfl) (aA (bL (v:=zB (p.Kind == 3)) q rfl rfl) (aG (v:=zB (p.Kind == 3)) ?_)))))))
   rcases aH hm with ⟨r,hm⟩|⟨r,hm⟩
   ·exact aR r rfl rfl (aR r rfl rfl (aR r rfl rfl (aA (bI (v:=zB true) r rfl rfl) (aD (v:=zB true) (aF ⟨aT,true,hm,rfl,x⟩)))))
   ·exact bD r rfl rfl (aA (bC (t':=0) eY rfl rfl) (bD r rfl rfl (aA (bQ dC x (i:=0) rfl rfl rfl) (bD r rfl rfl (aA (cK rfl rfl) (aA (bL (v:=zB (p.Kind == 5)) r rfl rfl) (aD (v:=zB (p.Kind == 5)) (aF ⟨aT,p.Kind == 5,hm,rfl,x⟩))))))))
 refine aU (aA (bC (t':=0) eY rfl rfl) (aA (bQ dC z (i:=0) rfl rfl rfl) (aA (cK rfl rfl) (aG (v:=zB (p.Kind == 4)) ?_))))
 rcases aH hm with ⟨t,hm⟩|⟨t,hm⟩
 ·exact aR t rfl rfl (aR t rfl rfl (aR t rfl rfl (aA (bI (v:=zB true) t rfl rfl) (aD (v:=zB true) (aF ⟨aT,true,hm,rfl,z⟩)))))
 ·exact bD t rfl rfl (aA (bC (t':=0) eY rfl rfl) (bD t rfl rfl (aA (bQ dC z (i:=0) rfl rfl rfl) (bD t rfl rfl (aA (cK rfl rfl) (aA (bL (v:=zB (p.Kind == 5)) t rfl rfl) (aD (v:=zB (p.Kind == 5)) (aF ⟨aT,p.Kind == 5,hm,rfl,z⟩))))))))
theorem aHY {p:Part} {d:(List Definition)} {R:Bool} (hm:tW p d=some R) (o:aM G K (L) w) (O:bY K a1 c2 p.Arguments) (l:bY K a4 c5 d):
  Calls prog 215 ([zA #[i64 p.Kind,i64 p.Number,bE p.Name,zS a1 p.Arguments.length c2],zS a4 d.length c5]:List Value).toArray w (eK fun v w'=>v=zB R/\aM G K (L) w'):=by
 refine aP func215 rfl (by kernel_rfl) (by show (2:Nat)<=38;decide) ?_;unfold tW at hm
 refine aJ (dM (v:=zA #[i64 p.Kind,i64 p.Number,bE p.Name,zS a1 p.Arguments.length c2]) (vs:=[i64 p.Kind,i64 p.Number,bE p.Name,zS a1 p.Arguments.length c2]) o rfl rfl (fun b7 w8 b=>(aD (v:=zB false) (aF (aJ (aA (bC (t':=3) jI rfl rfl) (aA (bQ qN b (i:=0) rfl rfl rfl) (aA (bO (len:=p.Arguments.length) lE rfl) (aD (v:=i64 (p.Arguments.length:Int)) (aF (aN (aJ (aA (bC (t':=0) eY rfl rfl) (aA (bQ dC b (i:=0) rfl rfl rfl) (aF (bX (aJ (aA (cK rfl rfl) (aD (v:=zB (p.Kind == 1)) (aF ?_))))))))))))))))))))
 rcases aH hm with ⟨e,hm⟩|⟨e,hm⟩
 ·refine aL e rfl (aN (cP [] (fun f w=>∃ h,lS h=some R/\f 4=zB h/\aM G K (L) w) ?_ ?_))
  ·rintro f a3 ⟨h,hm,q,r⟩
   unfold lS at hm
   refine aB ?_;obtain rfl:=zI hm
   exact aX (aY (aK (aO results215 rfl ⟨q,r⟩)))
  refine aU (aG (v:=i64 (p.Arguments.length:Int)) (aA (cK rfl rfl) (aG (v:=zB ((p.Arguments.length:Int) == 0)) ?_)))
  rcases aH hm with ⟨a,hm⟩|⟨a,hm⟩
  ·exact aR a rfl rfl (aR a rfl rfl (aR a rfl rfl (aR a rfl rfl (cL (g:=19) rfl rfl (cL (g:=19) rfl rfl (aR a rfl rfl (aA (bI (v:=zB true) a rfl rfl) (aD (v:=zB true) (aF ⟨aT,true,hm,rfl,(aM.arr 1 [] b rfl)⟩)))))))))
  ·refine bD a rfl rfl (aA (bC (t':=2) lD rfl rfl) (bD a rfl rfl (aA (bQ fA b (i:=0) rfl rfl rfl) (bD a rfl rfl (aA (vO rfl rfl) (bD a rfl rfl (aG (v:=zB (!(p.Name == ([116,97,117]:bJ)))) ?_)))))))
   rcases aH hm with ⟨c,hm⟩|⟨c,hm⟩
   ·exact bB c rfl rfl (aG (v:=i64 (p.Arguments.length:Int)) (bB c rfl rfl (aA (vR rfl rfl) (bD a rfl rfl (aA (bI (v:=zB (decide ((p.Arguments.length:Int)<=2))) c rfl rfl) (aA (bL (v:=zB (decide ((p.Arguments.length:Int)<=2))) a rfl rfl) (aD (v:=zB (decide ((p.Arguments.length:Int)<=2))) (aF ⟨aT,decide ((p.Arguments.length:Int)<=2),hm,rfl,(aM.arr 1 [] b rfl)⟩))))))))
   ·exact aV c rfl rfl (aV c rfl rfl (bD a rfl rfl (aA (bL (v:=zB false) c rfl rfl) (aA (bL (v:=zB false) a rfl rfl) (aD (v:=zB false) (aF ⟨aT,false,hm,rfl,(aM.arr 1 [] b rfl)⟩))))))
 ·refine aI e rfl (aJ (aA (cK rfl rfl) (aD (v:=zB (p.Kind == 3)) (aF ?_))))
  rcases aH hm with ⟨j,hm⟩|⟨j,hm⟩
  ·refine aL j rfl (aJ (aG (v:=i64 (p.Arguments.length:Int)) (aA (cK rfl rfl) (aD (v:=zB ((p.Arguments.length:Int) == 1)) (aF ?_)))));obtain rfl:=zI hm
   exact aX (aY (aK (aO results215 rfl ⟨rfl,(aM.arr 1 [] b rfl)⟩)))
  ·refine aI j rfl (aJ (aA (cK rfl rfl) (aD (v:=zB (p.Kind == 5)) (aF ?_))))
   rcases aH hm with ⟨k,hm⟩|⟨k,hm⟩
   ·refine aL k rfl (aJ (aG (v:=i64 (p.Arguments.length:Int)) (aG (v:=zS a4 d.length c5) (aA (bC (t':=1) jH rfl rfl) (aA (bQ dC b (i:=0) rfl rfl rfl) ?_)))));obtain ⟨y,m,hm⟩:=aC hm
    refine aA (cG jO rfl l rfl rfl rfl m) ?_;obtain ⟨a5,n,z⟩:=bY.el (sz:=3) rfl l m
    obtain ⟨a6,a7,rfl,a8⟩:=z
    refine aA (cH (k':=p.Number.toNat * 3+1) rE rfl n rfl) (aA (cC (t:=1) dC b n rfl rfl) (aA (cK rfl rfl) (aD (v:=zB ((p.Arguments.length:Int) == y.Parameters)) (aF ?_))));obtain rfl:=zI hm
    exact aX (aY (aK (aO results215 rfl ⟨rfl,(aM.arr 1 [] b rfl)⟩)))
   ·refine aI k rfl (aW (bH (aB (aJ (aD (v:=zB true) (aF ?_))))));obtain rfl:=zI hm
    exact aX (aO results215 rfl ⟨rfl,(aM.arr 1 [] b rfl)⟩)
theorem aHi {n:Int} {R:Bool} (hm:aBl n=some R) (a:aM G K (L) w):
  Calls prog 185 ([i64 n]:List Value).toArray w (eK fun v w'=>v=zB R/\aM G K (L) w'):=by
 refine aP func185 rfl (by kernel_rfl) (by show (1:Nat)<=5;decide) ?_;unfold aBl at hm
 refine aJ (aD (v:=zB false) (aF (aJ (aG (v:=i64 n) ?_))));obtain ⟨b,c,hm⟩:=aC hm
 refine aQ (vs:=[i64 n,i64 0,i64 63]) call58 rfl (fK c a) ?_
 rintro _ g ⟨rfl,d⟩
 refine aD (v:=zB b) (aF ?_);obtain rfl:=zI hm
 exact aX (aO results185 rfl ⟨rfl,d⟩)
theorem aJi {t:bS} {b:Int} {R:Bool} (hm:aAF t b=some R) (h:aM G K (L) w):
  Calls prog 246 ([zA #[i64 t.Kind,i64 t.Value],i64 b]:List Value).toArray w (eK fun v w'=>v=zB R/\aM G K (L) w'):=by
 refine aP func246 rfl (by kernel_rfl) (by show (2:Nat)<=29;decide) ?_;unfold aAF at hm
 refine aJ (dM (v:=zA #[i64 t.Kind,i64 t.Value]) (vs:=[i64 t.Kind,i64 t.Value]) h rfl rfl (fun V O a=>(aD (v:=zB false) (aF (aN (aJ (aA (bC (t':=0) vT rfl rfl) (aA (bQ dC a (i:=0) rfl rfl rfl) (aF (bX (aJ (aA (cK rfl rfl) (aD (v:=zB (t.Kind == 0)) (aF ?_))))))))))))))
 rcases aH hm with ⟨c,hm⟩|⟨c,hm⟩
 ·refine aL c rfl (aJ (aA (bC (t':=1) kL rfl rfl) (aA (bQ dC a (i:=0) rfl rfl rfl) ?_)));obtain ⟨j,k,hm⟩:=aC hm
  refine aQ (vs:=[i64 t.Value]) call185 rfl (aHi k a) ?_
  rintro _ w7 ⟨rfl,l⟩
  refine aD (v:=zB j) (aF ?_);obtain rfl:=zI hm
  exact aX (aY (aK (aO results246 rfl ⟨rfl,(aM.arr 1 [] l rfl)⟩)))
 ·refine aI c rfl (aJ (aA (cK rfl rfl) (aD (v:=zB (t.Kind == 1)) (aF ?_))))
  rcases aH hm with ⟨d,hm⟩|⟨d,hm⟩
  ·refine aL d rfl (aJ (aA (bC (t':=1) kL rfl rfl) (aA (bQ dC a (i:=0) rfl rfl rfl) (aG (v:=i64 b) (aA (iW rfl rfl) ?_)))));obtain ⟨n,o,hm⟩:=aC hm
   refine aQ (vs:=[i64 t.Value,i64 0,i64 (wr (b - 1))]) call58 rfl (fK o a) ?_
   rintro _ a1 ⟨rfl,p⟩
   refine aD (v:=zB n) (aF ?_);obtain rfl:=zI hm
   exact aX (aY (aK (aO results246 rfl ⟨rfl,(aM.arr 1 [] p rfl)⟩)))
  ·refine aI d rfl (aJ (aA (cK rfl rfl) (aD (v:=zB (t.Kind == 2)) (aF ?_))))
   rcases aH hm with ⟨e,hm⟩|⟨e,hm⟩
   ·refine aL e rfl (aJ (aA (bC (t':=1) kL rfl rfl) (aA (bQ dC a (i:=0) rfl rfl rfl) ?_)));obtain ⟨r,u,hm⟩:=aC hm
    refine aQ (vs:=[i64 t.Value,i64 0,i64 8]) call58 rfl (fK u a) ?_
    rintro _ a2 ⟨rfl,x⟩
    refine aD (v:=zB r) (aF ?_);obtain rfl:=zI hm
    exact aX (aY (aK (aO results246 rfl ⟨rfl,(aM.arr 1 [] x rfl)⟩)))
   ·refine aI e rfl (aJ (aA (cK rfl rfl) (aD (v:=zB (t.Kind == 3)) (aF ?_))))
    rcases aH hm with ⟨g,hm⟩|⟨g,hm⟩
    ·refine aL g rfl (aJ (aA (bC (t':=1) kL rfl rfl) (aA (bQ dC a (i:=0) rfl rfl rfl) (aA (cK rfl rfl) (aD (v:=zB (t.Value == 0)) (aF ?_))))));obtain rfl:=zI hm
     exact aX (aY (aK (aO results246 rfl ⟨rfl,(aM.arr 1 [] a rfl)⟩)))
    ·refine aI g rfl (aW (bH (aB (aJ (aD (v:=zB false) (aF ?_))))));obtain rfl:=zI hm
     exact aX (aO results246 rfl ⟨rfl,(aM.arr 1 [] a rfl)⟩)
theorem aCy {t:bS} {R:Int} (hm:rL t=some R) (d:aM G K (L) w):
  Calls prog 247 ([zA #[i64 t.Kind,i64 t.Value]]:List Value).toArray w (eK fun v w'=>v=i64 R/\aM G K (L) w'):=by
 refine aP func247 rfl (by kernel_rfl) (by show (1:Nat)<=9;decide) ?_;unfold rL at hm
 refine aJ (dM (v:=zA #[i64 t.Kind,i64 t.Value]) (vs:=[i64 t.Kind,i64 t.Value]) d rfl rfl (fun j k a=>(aD (v:=i64 0) (aF (aN (aJ (aA (bC (t':=0) vT rfl rfl) (aA (bQ dC a (i:=0) rfl rfl rfl) (aF (bX (aJ (aA (cK rfl rfl) (aD (v:=zB (t.Kind == 2)) (aF ?_))))))))))))))
 rcases aH hm with ⟨b,hm⟩|⟨b,hm⟩
 ·refine aL b rfl (aJ (aD (v:=i64 2) (aF ?_)));obtain rfl:=zI hm
  exact aX (aY (aK (aO results247 rfl ⟨rfl,(aM.arr 1 [] a rfl)⟩)))
 ·refine aI b rfl (aJ (aA (cK rfl rfl) (aD (v:=zB (t.Kind == 3)) (aF ?_))))
  rcases aH hm with ⟨c,hm⟩|⟨c,hm⟩
  ·refine aL c rfl (aJ (aD (v:=i64 1) (aF ?_)));obtain rfl:=zI hm
   exact aX (aY (aK (aO results247 rfl ⟨rfl,(aM.arr 1 [] a rfl)⟩)))
  ·refine aI c rfl (aW (bH (aB (aJ (aD (v:=i64 0) (aF ?_))))));obtain rfl:=zI hm
   exact aX (aO results247 rfl ⟨rfl,(aM.arr 1 [] a rfl)⟩)
theorem aJj {e:(List bS)} {h k:Int} {R:Bool} (hm:aAG e h k=some R) (hs:aM G K (L) w) (V:bY K a1 c2 e):
  Calls prog 218 ([zS a1 e.length c2,i64 h,i64 k]:List Value).toArray w (eK fun v w'=>v=zB R/\aM G K (L) w'):=by
 refine aP func218 rfl (by kernel_rfl) (by show (3:Nat)<=47;decide) ?_;unfold aAG at hm
 refine aJ (aD (v:=zB false) (aF (aN (aN (cP [0,1] (fun f w=>∃ n,nR e h n=some R/\f 24=zB n/\aM G K (L) w) ?_ ?_)))))
 ·rintro f w6 ⟨n,hm,O,a0⟩
  unfold nR at hm
  refine aB ?_
  rcases aH hm with ⟨o,hm⟩|⟨o,hm⟩
  ·refine aL o O (aJ (aD (v:=zB false) (aF ?_)));obtain rfl:=zI hm
   exact aX (aK (aO results218 rfl ⟨rfl,a0⟩))
  ·refine aI o O (aW (aB (aJ (aD (v:=i64 1) (aF (aN (aJ (aG (v:=zS a1 e.length c2) (aA (bO (len:=e.length) lX rfl) (aG (v:=i64 0) (aF (bM [] (fun f w=>∃ l,xK l=some R/\f 7=i64 l/\aM G K (L) w) ?_ ?_))))))))))))
   ·rintro f d7 ⟨l,hm,b2,b3⟩
    unfold xK at hm
    refine aB (aJ (bF b2 (aA (cK rfl rfl) (aD (v:=zB (l == 0)) (aF ?_)))));obtain rfl:=zI hm
    exact aX (aO results218 rfl ⟨rfl,b3⟩)
   obtain ⟨d8,b5,ho⟩:=aC hm
   refine dD [1,25,26] b5 (fun j m f w=>f 7=i64 j/\f 27=i64 m/\aM G K (L) w) ?_ ?_
   ·exact ⟨rfl,rfl,a0⟩
   ·rintro j m b6 f d9 hm hr ⟨p,q,r⟩
    unfold rN at hm
    refine aJ (aA (cF q rfl) (aF (aN ?_)))
    rcases aH hm with ⟨u,hm⟩|⟨u,hm⟩
    ·refine aL u rfl (aW (aB (aN (bX (aJ ?_)))));obtain ⟨a,a2,hm⟩:=aC hm
     refine aA (cG lX rfl V rfl rfl q a2) ?_;obtain ⟨e0,b7,b8⟩:=bY.el (sz:=2) rfl V a2
     cases b8
     refine aA (dZ (t:=0) (vs:=[i64 a.Kind,i64 a.Value]) aFR r b7 rfl rfl rfl) (eA (vs:=[i64 0,i64 0]) zeroValue224 r rfl (fun a3 e1 b9=>(eD (i:=0) (ns:=[i64 a.Kind,i64 a.Value]) (us:=[i64 a.Kind,i64 a.Value]) sizeOf224 b9 rfl rfl rfl rfl rfl (gJ rfl) rfl rfl (fun c0 (x:aM G K (box a3 224 [i64 a.Kind,i64 a.Value]::L) c0)=>(aF (aN (aN (cP [1,7,9,25,26,27] (fun f w=>∃ y,rM j m a y=some b6/\f 38=zB y/\aM G K (box a3 224 [i64 a.Kind,i64 a.Value]::L) w) ?_ ?_))))))))
     ·rintro f e2 ⟨y,hm,a4,z⟩
      unfold rM at hm
      refine aB ?_
      rcases aH hm with ⟨J,hm⟩|⟨J,hm⟩
      ·refine aL J a4 (aJ (aD (v:=zB false) (aF (aX (aK (aY (aK (aK ?_))))))))
       have c1:=hr _ (zI hm).symm
       subst c1
       have hm:(some false)=some R:=ho
       clear hr ho
       obtain rfl:=zI hm
       exact aY (aK (aK (aO results218 rfl ⟨rfl,(aM.arr 1 [] z rfl)⟩)))
      ·refine aI J a4 (aW (aB (aU (bF p (aA (fQ (us:=[i64 a.Kind,i64 a.Value]) aFR z (i:=0) rfl rfl rfl rfl) ?_)))));obtain ⟨c4,c5,hm⟩:=aC hm
       refine aQ (vs:=[zA #[i64 a.Kind,i64 a.Value]]) call247 rfl (aCy c5 z) ?_
       rintro _ e3 ⟨rfl,c6⟩
       exact aA (iW rfl rfl) (aA (cA rfl rfl) (aD (v:=i64 (wr (j+(wr (c4 - 1))))) (cW (bH (aB (aU (aA (cA q rfl) (aG (v:=i64 (wr (m+1))) (aF ⟨_,(zI hm).symm,aT,rfl,rfl,(aM.arr 1 [] c6 rfl)⟩)))))))))
     refine aU (bF p (aA (cK rfl rfl) (aG (v:=zB (j == 0)) ?_)))
     rcases aH hm with ⟨c,hm⟩|⟨c,hm⟩
     ·exact aR c rfl rfl (aR c rfl rfl (aR c rfl rfl (aR c rfl rfl (aA (bI (v:=zB true) c rfl rfl) (aF ⟨aT,true,hm,rfl,x⟩)))))
     ·refine bD c rfl rfl (aA (fQ (us:=[i64 a.Kind,i64 a.Value]) aFR x (i:=0) rfl rfl rfl rfl) (bD c rfl rfl (aG (v:=i64 h) (bD c rfl rfl ?_))));obtain ⟨a5,c7,hm⟩:=aC hm
      refine aQ (vs:=[zA #[i64 a.Kind,i64 a.Value],i64 h]) call246 rfl (aJi c7 x) ?_
      rintro _ e4 ⟨rfl,c9⟩
      exact bD c rfl rfl (aA (dA rfl) (aA (bL (v:=zB (!a5)) c rfl rfl) (aF ⟨aT,!a5,hm,rfl,c9⟩)))
    ·refine aI u rfl (cD (bA (bA ?_)))
     have d0:=hr _ (zI hm).symm
     subst d0
     have hm:(xK j)=some R:=ho
     clear hr ho
     exact bR (aB ⟨aT,j,hm,p,r⟩)
 refine aU (aG (v:=i64 h) ?_);obtain ⟨d1,d2,hm⟩:=aC hm
 refine aQ (vs:=[i64 h,i64 0,i64 29]) call58 rfl (fK d2 hs) ?_
 rintro _ e6 ⟨rfl,a6⟩
 refine aA (dA rfl) (aG (v:=zB (!d1)) ?_)
 rcases aH hm with ⟨d,hm⟩|⟨d,hm⟩
 ·exact aR d rfl rfl (aR d rfl rfl (aR d rfl rfl (aA (bI (v:=zB true) d rfl rfl) (aG (v:=zB true) (aR (rfl:true=true) rfl rfl (aR (rfl:true=true) rfl rfl (aR (rfl:true=true) rfl rfl (aR (rfl:true=true) rfl rfl (aR (rfl:true=true) rfl rfl (aA (bI (v:=zB true) (rfl:true=true) rfl rfl) (aF ⟨aT,true,hm,rfl,a6⟩)))))))))))
 ·refine bD d rfl rfl (aG (v:=i64 k) (bD d rfl rfl ?_));obtain ⟨a7,d3,hm⟩:=aC hm
  refine aQ (vs:=[i64 k,i64 1,i64 60]) call58 rfl (fK d3 a6) ?_
  rintro _ e7 ⟨rfl,a8⟩
  refine bD d rfl rfl (aA (dA rfl) (aA (bL (v:=zB (!a7)) d rfl rfl) (aG (v:=zB (!a7)) ?_)))
  rcases aH hm with ⟨b,hm⟩|⟨b,hm⟩
  ·exact aR b rfl rfl (aR b rfl rfl (aR b rfl rfl (aR b rfl rfl (aR b rfl rfl (aA (bI (v:=zB true) b rfl rfl) (aF ⟨aT,true,hm,rfl,a8⟩))))))
  ·refine bD b rfl rfl (aG (v:=zS a1 e.length c2) (bD b rfl rfl (aA (bO (len:=e.length) lX rfl) (bD b rfl rfl (aG (v:=i64 k) (bD b rfl rfl ?_))))));obtain ⟨a9,d4,hm⟩:=aC hm
   refine aQ (vs:=[i64 (e.length:Int),i64 1,i64 k]) call58 rfl (fK d4 a8) ?_
   rintro _ e8 ⟨rfl,d5⟩
   exact bD b rfl rfl (aA (dA rfl) (aA (bL (v:=zB (!a9)) b rfl rfl) (aF ⟨aT,!a9,hm,rfl,d5⟩)))
theorem aGC {e:(List bS)} {p:eX} {a:Nat} {R:Bool} (hm:uX e p=some R) (b:aM G K (L) w) (d:bY K a1 c2 e) (c:iG K a4 a [i64 p.scope,zB p.behind]):
  Calls prog 217 ([zS a1 e.length c2,eP a4 a]:List Value).toArray w (eK fun v w'=>v=zB R/\aM G K (L) w'):=by
 refine aP func217 rfl (by kernel_rfl) (by show (2:Nat)<=9;decide) ?_;unfold uX at hm
 refine aJ (aD (v:=zB false) (aF (aJ (aG (v:=zS a1 e.length c2) (aA (cH (k':=a+0) aGS rfl c rfl) (aA (cC (t:=0) dC b c rfl rfl) ?_))))));obtain ⟨g,h,hm⟩:=aC hm
 refine aQ (vs:=[zS a1 e.length c2,i64 p.scope,i64 15]) call218 rfl (aJj h b d) ?_
 rintro _ k ⟨rfl,i⟩
 refine aA (dA rfl) (aD (v:=zB (!g)) (aF ?_));obtain rfl:=zI hm
 exact aX (aO results217 rfl ⟨rfl,i⟩)
theorem nJ {s_:(List (List bS))} {c:eX} {b:Nat} {R:Int} (hm:fH s_ c=some R) (o:aM G K (L) w) (i:bY K a1 c2 s_) (p:iG K a4 b [i64 c.scope,zB c.behind]):
  Calls prog 245 ([zS a1 s_.length c2,Value.func (.func 217) #[] #[eP a4 b]]:List Value).toArray w (eK fun v w'=>v=i64 R/\aM G K (L) w'):=by
 refine aP func245 rfl (by kernel_rfl) (by show (2:Nat)<=19;decide) ?_;unfold fH at hm
 refine aJ (aD (v:=i64 0) (aF (aN (aJ (aG (v:=zS a1 s_.length c2) (aA (bO (len:=s_.length) lE rfl) (aG (v:=i64 0) (aF (bM [] (fun f w=>eV=some R/\aM G K (L) w) ?_ ?_)))))))))
 ·rintro f w7 ⟨hm,q⟩
  unfold eV at hm
  refine aB (aJ (aD (v:=i64 (-1)) (aF ?_)));obtain rfl:=zI hm
  exact aX (aO results245 rfl ⟨rfl,q⟩)
 obtain ⟨a3,u,ho⟩:=aC hm
 refine dP [0,1,7] u (fun a f w=>f 8=i64 a/\aM G K (L) w) ?_ ?_
 ·exact ⟨rfl,o⟩
 ·rintro a a5 f a6 hm hr ⟨d,e⟩
  unfold dV at hm
  refine aJ (aA (cF d rfl) (aF (aN ?_)))
  rcases aH hm with ⟨g,hm⟩|⟨g,hm⟩
  ·refine aL g rfl (aW (aB (aN (bX (aJ (bF d (aD (v:=i64 a) (aF (aJ (aG (v:=Value.func (.func 217) #[] #[eP a4 b]) (aG (v:=zS a1 s_.length c2) (aG (v:=i64 a) ?_))))))))))));obtain ⟨j,k,hm⟩:=aC hm
   refine aA (cG lE rfl i rfl rfl rfl k) ?_;obtain ⟨a7,x,y⟩:=bY.el (sz:=1) rfl i k
   obtain ⟨l,m,rfl,z⟩:=y
   refine aA (cC (t:=0) aFP e x rfl rfl) ?_;obtain ⟨a8,J,hm⟩:=aC hm
   refine sZ (vs:=[zS l j.length m]) (caps:=[eP a4 b]) (us:=[zS l j.length m,eP a4 b]) rfl call217 rfl rfl (aGC J e z p) ?_
   rintro _ a9 ⟨rfl,n⟩
   refine aF ?_
   rcases aH hm with ⟨h,hm⟩|⟨h,hm⟩
   ·refine aL h rfl (aJ (aG (v:=i64 a) (aD (v:=i64 a) (aF (aX (aY (aK (aK ?_))))))))
    have V:=hr _ (zI hm).symm
    subst V
    have hm:(some a)=some R:=ho
    clear hr ho
    obtain rfl:=zI hm
    exact aY (aK (aK (aO results245 rfl ⟨rfl,n⟩)))
   ·exact aI h rfl (aW (bH (aB (aU (aA (cA d rfl) (aG (v:=i64 (wr (a+1))) (aF ⟨_,(zI hm).symm,aT,rfl,n⟩)))))))
  ·refine aI g rfl (cD (bA (bA ?_)))
   have a0:=hr _ (zI hm).symm
   subst a0
   have hm:(eV)=some R:=ho
   clear hr ho
   exact bR (aB ⟨aT,hm,e⟩)
theorem mG {s_:(List (List bS))} {b:eX} {a:Nat} {R:Bool} (hm:dW s_ b=some R) (c:aM G K (L) w) (d:bY K a1 c2 s_) (e:iG K a4 a [i64 b.scope,zB b.behind]):
  Calls prog 216 ([zS a1 s_.length c2,Value.func (.func 217) #[] #[eP a4 a]]:List Value).toArray w (eK fun v w'=>v=zB R/\aM G K (L) w'):=by
 refine aP func216 rfl (by kernel_rfl) (by show (2:Nat)<=9;decide) ?_;unfold dW at hm
 refine aJ (aD (v:=zB false) (aF (aJ (aG (v:=zS a1 s_.length c2) (aG (v:=Value.func (.func 217) #[] #[eP a4 a]) ?_)))));obtain ⟨g,h,hm⟩:=aC hm
 refine aQ (vs:=[zS a1 s_.length c2,Value.func (.func 217) #[] #[eP a4 a]]) call245 rfl (nJ h c d e) ?_
 rintro _ k ⟨rfl,i⟩
 refine aA (sO rfl rfl) (aD (v:=zB (decide (0<=g))) (aF ?_));obtain rfl:=zI hm
 exact aX (aO results216 rfl ⟨rfl,i⟩)
theorem aID {p:Part} {e:(List Definition)} {a:eX} {R:Int} (hm:sG p e a=some R) (hs:aM G K (L) w) (O:bY K a1 c2 p.Arguments) (h6:bY K a4 c5 e):
  Calls prog 182 ([zA #[i64 p.Kind,i64 p.Number,bE p.Name,zS a1 p.Arguments.length c2],zS a4 e.length c5,zA #[i64 a.scope,zB a.behind]]:List Value).toArray w (eK fun v w'=>v=i64 R/\aM G K (L) w'):=by
 let o:=[i64 p.Kind,i64 p.Number,bE p.Name,zS a1 p.Arguments.length c2]
 let t:=[i64 a.scope,zB a.behind]
 refine aP func182 rfl (by kernel_rfl) (by show (3:Nat)<=77;decide) ?_;unfold sG at hm
 refine aJ (dM (v:=zA #[i64 p.Kind,i64 p.Number,bE p.Name,zS a1 p.Arguments.length c2]) (vs:=o) hs rfl rfl (fun z w8 c8=>(dM (v:=zA #[i64 a.scope,zB a.behind]) (vs:=t) c8 rfl rfl (fun r f6 b6=>(aD (v:=i64 0) (aF (aN (bX (aJ (aA (fQ (us:=o) yD b6 (i:=1) rfl rfl rfl rfl) ?_))))))))));obtain ⟨c9,d0,hm⟩:=aC hm
 refine aQ (vs:=[zA #[i64 p.Kind,i64 p.Number,bE p.Name,zS a1 p.Arguments.length c2]]) call214 rfl (aIC d0 b6 O) ?_
 rintro _ f7 ⟨rfl,q⟩
 refine aA (dA rfl) (aD (v:=zB (!c9)) (aF ?_))
 rcases aH hm with ⟨a0,hm⟩|⟨a0,hm⟩
 ·refine aL a0 rfl (aJ (aD (v:=i64 2) (aF ?_)));obtain rfl:=zI hm
  exact aX (aY (aK (aO results182 rfl ⟨rfl,(aM.arr 2 [] q rfl)⟩)))
 ·refine aI a0 rfl (aN (cP [1,3,5] (fun f w=>∃ a2,kW p e a a2=some R/\f 11=zB a2/\aM G K (box r 241 t::box z 152 o::L) w) ?_ ?_))
  ·rintro f f8 ⟨a2,hm,b8,n⟩
   unfold kW at hm
   refine aB ?_
   rcases aH hm with ⟨a3,hm⟩|⟨a3,hm⟩
   ·refine aL a3 b8 (aJ (aD (v:=i64 3) (aF ?_)));obtain rfl:=zI hm
    exact aX (aY (aK (aO results182 rfl ⟨rfl,(aM.arr 2 [] n rfl)⟩)))
   ·refine aI a3 b8 (aN (cP [1,3,5] (fun f w=>∃ a5,iM p e a a5=some R/\f 26=zB a5/\aM G K (box r 241 t::box z 152 o::L) w) ?_ ?_))
    ·rintro f f9 ⟨a5,hm,b9,a6⟩
     unfold iM at hm
     refine aB ?_
     rcases aH hm with ⟨a7,hm⟩|⟨a7,hm⟩
     ·refine aL a7 b9 (aJ (aD (v:=i64 4) (aF ?_)));obtain rfl:=zI hm
      exact aX (aY (aK (aO results182 rfl ⟨rfl,(aM.arr 2 [] a6 rfl)⟩)))
     ·refine aI a7 b9 (aJ (aA (fQ (us:=o) yD a6 (i:=1) rfl rfl rfl rfl) (aG (v:=zS a4 e.length c5) ?_)));obtain ⟨d4,d5,hm⟩:=aC hm
      refine aQ (vs:=[zA #[i64 p.Kind,i64 p.Number,bE p.Name,zS a1 p.Arguments.length c2],zS a4 e.length c5]) call215 rfl (aHY d5 a6 O h6) ?_
      rintro _ g0 ⟨rfl,u⟩
      refine aA (dA rfl) (aD (v:=zB (!d4)) (aF ?_))
      rcases aH hm with ⟨a8,hm⟩|⟨a8,hm⟩
      ·refine aL a8 rfl (aJ (aD (v:=i64 5) (aF ?_)));obtain rfl:=zI hm
       exact aX (aY (aK (aO results182 rfl ⟨rfl,(aM.arr 2 [] u rfl)⟩)))
      ·refine aI a8 rfl (aN (cP [3,5] (fun f w=>∃ a9,mT p a a9=some R/\f 54=zB a9/\aM G K (box r 241 t::box z 152 o::L) w) ?_ ?_))
       ·rintro f g1 ⟨a9,hm,c0,x⟩
        unfold mT at hm
        refine aB ?_
        rcases aH hm with ⟨b0,hm⟩|⟨b0,hm⟩
        ·refine aL b0 c0 (aJ (aD (v:=i64 6) (aF ?_)));obtain rfl:=zI hm
         exact aX (aY (aK (aO results182 rfl ⟨rfl,(aM.arr 2 [] x rfl)⟩)))
        ·refine aI b0 c0 (aN (cP [3,5] (fun f w=>∃ b1,mR p a b1=some R/\f 63=zB b1/\aM G K (box r 241 t::box z 152 o::L) w) ?_ ?_))
         ·rintro f g2 ⟨b1,hm,c1,b2⟩
          unfold mR at hm
          refine aB ?_
          rcases aH hm with ⟨b3,hm⟩|⟨b3,hm⟩
          ·refine aL b3 c1 (aJ (aD (v:=i64 7) (aF ?_)));obtain rfl:=zI hm
           exact aX (aY (aK (aO results182 rfl ⟨rfl,(aM.arr 2 [] b2 rfl)⟩)))
          ·refine aI b3 c1 (aJ (aA (bC (t':=3) jI rfl rfl) (aA (bQ qN b2 (i:=1) rfl rfl rfl) (aA (yA (vs:=[Value.pointer (some ⟨r,0,none⟩)]) rfl) ?_))));obtain ⟨g3,d9,e0,e1,e2⟩:=aM.lendBp b2 .head
           obtain ⟨e3,e4,hm⟩:=aC hm
           refine aQ (vs:=[zS a1 p.Arguments.length c2,Value.func (.func 217) #[] #[eP (some ⟨r,0,none⟩) 0]]) call216 rfl (mG e4 e1 (O.mono d9) e0) ?_
           rintro _ g4 ⟨rfl,e5⟩
           have c3:=e2 _ _ e5
           refine aD (v:=zB e3) (aF ?_)
           rcases aH hm with ⟨b4,hm⟩|⟨b4,hm⟩
           ·refine aL b4 rfl (aJ (aD (v:=i64 8) (aF ?_)));obtain rfl:=zI hm
            exact aX (aY (aK (aO results182 rfl ⟨rfl,(aM.arr 2 [] c3 rfl)⟩)))
           ·refine aI b4 rfl (aW (bH (aB (aJ (aD (v:=i64 0) (aF ?_))))));obtain rfl:=zI hm
            exact aX (aO results182 rfl ⟨rfl,(aM.arr 2 [] c3 rfl)⟩)
         refine aU (aA (bC (t':=0) eY rfl rfl) (aA (bQ dC x (i:=1) rfl rfl rfl) (aA (cK rfl rfl) (aG (v:=zB (p.Kind == 4)) ?_))))
         rcases aH hm with ⟨k,hm⟩|⟨k,hm⟩
         ·exact bB k rfl rfl (aA (bC (t':=0) aGS rfl rfl) (bB k rfl rfl (aA (bQ dC x (i:=0) rfl rfl rfl) (bB k rfl rfl (aA (sO rfl rfl) (aA (bI (v:=zB (decide (6<=a.scope))) k rfl rfl) (aD (v:=zB (decide (6<=a.scope))) (aF ⟨aT,decide (6<=a.scope),hm,rfl,x⟩))))))))
         ·exact aV k rfl rfl (aV k rfl rfl (aV k rfl rfl (aA (bL (v:=zB false) k rfl rfl) (aD (v:=zB false) (aF ⟨aT,false,hm,rfl,x⟩)))))
       refine aU (aA (bC (t':=0) eY rfl rfl) (aA (bQ dC u (i:=1) rfl rfl rfl) (aA (cK rfl rfl) (aG (v:=zB (p.Kind == 5)) ?_))))
       rcases aH hm with ⟨l,hm⟩|⟨l,hm⟩
       ·exact bB l rfl rfl (aA (bC (t':=1) fa_241_1 rfl rfl) (bB l rfl rfl (aA (bQ sc_4 u (i:=0) rfl rfl rfl) (bB l rfl rfl (aA (dA rfl) (aA (bI (v:=zB (!a.behind)) l rfl rfl) (aD (v:=zB (!a.behind)) (aF ⟨aT,!a.behind,hm,rfl,u⟩))))))))
       ·exact aV l rfl rfl (aV l rfl rfl (aV l rfl rfl (aA (bL (v:=zB false) l rfl rfl) (aD (v:=zB false) (aF ⟨aT,false,hm,rfl,u⟩)))))
    refine aU (aA (bC (t':=0) eY rfl rfl) (aA (bQ dC n (i:=1) rfl rfl rfl) (aA (cK rfl rfl) (aG (v:=zB (p.Kind == 4)) ?_))))
    rcases aH hm with ⟨h,hm⟩|⟨h,hm⟩
    ·refine bB h rfl rfl (aA (bC (t':=1) jH rfl rfl) (bB h rfl rfl (aA (bQ dC n (i:=1) rfl rfl rfl) (bB h rfl rfl ?_))));obtain ⟨c4,e8,hm⟩:=aC hm
     refine aQ (vs:=[i64 p.Number,i64 1,i64 7]) call58 rfl (fK e8 n) ?_
     rintro _ g5 ⟨rfl,y⟩
     refine bB h rfl rfl (aA (dA rfl) (aA (bI (v:=zB (!c4)) h rfl rfl) (aG (v:=zB (!c4)) ?_)))
     rcases aH hm with ⟨b,hm⟩|⟨b,hm⟩
     ·exact aR b rfl rfl (aR b rfl rfl (aR b rfl rfl (aR b rfl rfl (cL (g:=40) rfl rfl (cL (g:=40) rfl rfl (cL (g:=40) rfl rfl (cL (g:=40) rfl rfl (cL (g:=40) rfl rfl (cL (g:=40) rfl rfl (aR b rfl rfl (aA (bI (v:=zB true) b rfl rfl) (aD (v:=zB true) (aF ⟨aT,true,hm,rfl,y⟩)))))))))))))
     ·refine bD b rfl rfl (aA (bC (t':=0) eY rfl rfl) (bD b rfl rfl (aA (bQ dC y (i:=1) rfl rfl rfl) (bD b rfl rfl (aA (cK rfl rfl) (bD b rfl rfl (aG (v:=zB (p.Kind == 5)) ?_)))))))
      rcases aH hm with ⟨c,hm⟩|⟨c,hm⟩
      ·refine bB c rfl rfl (aA (bC (t':=1) jH rfl rfl) (bB c rfl rfl (aA (bQ dC y (i:=1) rfl rfl rfl) (bB c rfl rfl (aG (v:=zS a4 e.length c5) (bB c rfl rfl (aA (bO (len:=e.length) jO rfl) (bB c rfl rfl ?_))))))));obtain ⟨J,e9,hm⟩:=aC hm
       refine aQ (vs:=[i64 p.Number,i64 (e.length:Int)]) call146 rfl (aGh e9 y) ?_
       rintro _ g6 ⟨rfl,f0⟩
       exact bB c rfl rfl (aA (dA rfl) (bD b rfl rfl (aA (bI (v:=zB (!J)) c rfl rfl) (aA (bL (v:=zB (!J)) b rfl rfl) (aD (v:=zB (!J)) (aF ⟨aT,!J,hm,rfl,f0⟩))))))
      ·exact aV c rfl rfl (aV c rfl rfl (aV c rfl rfl (aV c rfl rfl (aV c rfl rfl (aV c rfl rfl (bD b rfl rfl (aA (bL (v:=zB false) c rfl rfl) (aA (bL (v:=zB false) b rfl rfl) (aD (v:=zB false) (aF ⟨aT,false,hm,rfl,y⟩))))))))))
    ·refine aV h rfl rfl (aV h rfl rfl (aV h rfl rfl (aV h rfl rfl (aA (bL (v:=zB false) h rfl rfl) (aG (v:=zB false) (bD (by decide:¬ false=true) rfl rfl (aA (bC (t':=0) eY rfl rfl) (bD (by decide:¬ false=true) rfl rfl (aA (bQ dC n (i:=1) rfl rfl rfl) (bD (by decide:¬ false=true) rfl rfl (aA (cK rfl rfl) (bD (by decide:¬ false=true) rfl rfl (aG (v:=zB (p.Kind == 5)) ?_)))))))))))))
     rcases aH hm with ⟨d,hm⟩|⟨d,hm⟩
     ·refine bB d rfl rfl (aA (bC (t':=1) jH rfl rfl) (bB d rfl rfl (aA (bQ dC n (i:=1) rfl rfl rfl) (bB d rfl rfl (aG (v:=zS a4 e.length c5) (bB d rfl rfl (aA (bO (len:=e.length) jO rfl) (bB d rfl rfl ?_))))))));obtain ⟨V,f1,hm⟩:=aC hm
      refine aQ (vs:=[i64 p.Number,i64 (e.length:Int)]) call146 rfl (aGh f1 n) ?_
      rintro _ g7 ⟨rfl,f2⟩
      exact bB d rfl rfl (aA (dA rfl) (bD (by decide:¬ false=true) rfl rfl (aA (bI (v:=zB (!V)) d rfl rfl) (aA (bL (v:=zB (!V)) (by decide:¬ false=true) rfl rfl) (aD (v:=zB (!V)) (aF ⟨aT,!V,hm,rfl,f2⟩))))))
     ·exact aV d rfl rfl (aV d rfl rfl (aV d rfl rfl (aV d rfl rfl (aV d rfl rfl (aV d rfl rfl (bD (by decide:¬ false=true) rfl rfl (aA (bL (v:=zB false) d rfl rfl) (aA (bL (v:=zB false) (by decide:¬ false=true) rfl rfl) (aD (v:=zB false) (aF ⟨aT,false,hm,rfl,n⟩))))))))))
  refine aU (aA (bC (t':=0) eY rfl rfl) (aA (bQ dC q (i:=1) rfl rfl rfl) (aA (cK rfl rfl) (aG (v:=zB (p.Kind == 1)) ?_))))
  rcases aH hm with ⟨m,hm⟩|⟨m,hm⟩
  ·refine bB m rfl rfl (aA (bC (t':=2) lD rfl rfl) (bB m rfl rfl (aA (bQ fA q (i:=1) rfl rfl rfl) (bB m rfl rfl (aA (vO rfl rfl) (aA (bI (v:=zB (!(p.Name == ([116,97,117]:bJ)))) m rfl rfl) (aG (v:=zB (!(p.Name == ([116,97,117]:bJ)))) ?_)))))))
   rcases aH hm with ⟨j,hm⟩|⟨j,hm⟩
   ·refine bB j rfl rfl (aA (bC (t':=2) lD rfl rfl) (bB j rfl rfl (aA (bQ fA q (i:=1) rfl rfl rfl) (bB j rfl rfl ?_))));obtain ⟨b5,f3,hm⟩:=aC hm
    refine aQ (vs:=[bE p.Name]) call148 rfl (nS f3 q) ?_
    rintro _ g8 ⟨rfl,f4⟩
    exact bB j rfl rfl (aA (dA rfl) (aA (bI (v:=zB (!b5)) j rfl rfl) (aD (v:=zB (!b5)) (aF ⟨aT,!b5,hm,rfl,f4⟩))))
   ·exact aV j rfl rfl (aV j rfl rfl (aV j rfl rfl (aV j rfl rfl (aA (bL (v:=zB false) j rfl rfl) (aD (v:=zB false) (aF ⟨aT,false,hm,rfl,q⟩))))))
  ·exact aV m rfl rfl (aV m rfl rfl (aV m rfl rfl (aA (bL (v:=zB false) m rfl rfl) (aG (v:=zB false) (aV (by decide:¬ false=true) rfl rfl (aV (by decide:¬ false=true) rfl rfl (aV (by decide:¬ false=true) rfl rfl (aV (by decide:¬ false=true) rfl rfl (aA (bL (v:=zB false) (by decide:¬ false=true) rfl rfl) (aD (v:=zB false) (aF ⟨aT,false,hm,rfl,q⟩)))))))))))
theorem aKg {k:(List Definition)} {d:Definition} {R:(Int × Int)} (hm:yY k d=some R) (hs:aM G K (L) w) (h3:bY K a1 c2 k) (q:bY K a4 c5 d.Body):
  Calls prog 144 ([zS a1 k.length c2,zA #[bE d.Name,i64 d.Parameters,zS a4 d.Body.length c5]]:List Value).toArray w (eK fun v w'=>v=Value.tuple #[i64 R.1,i64 R.2]/\aM G K (L) w'):=by
 let m:=[bE d.Name,i64 d.Parameters,zS a4 d.Body.length c5]
 refine aP func144 rfl (by kernel_rfl) (by show (2:Nat)<=45;decide) ?_;unfold yY at hm
 refine aJ (dM (v:=zA #[bE d.Name,i64 d.Parameters,zS a4 d.Body.length c5]) (vs:=m) hs rfl rfl (fun b7 w8 b=>(aD (v:=i64 0) (aD (v:=i64 0) (aF (aN (aN (cP [0,3] (fun f w=>∃ x,tX k d x=some R/\f 22=zB x/\aM G K (box b7 104 m::L) w) ?_ ?_))))))))
 ·rintro f d6 ⟨x,hm,a5,y⟩
  unfold tX at hm
  refine aB ?_
  rcases aH hm with ⟨z,hm⟩|⟨z,hm⟩
  ·refine aL z a5 (aJ (aD (v:=i64 0) (aD (v:=i64 1) (aF ?_))));obtain rfl:=zI hm
   exact aX (aK (kJ results144 rfl rfl ⟨rfl,(aM.arr 1 [] y rfl)⟩))
  ·refine aI z a5 (aW (aB (aJ (aA (fQ (us:=m) aCK y (i:=0) rfl rfl rfl rfl) ?_))));obtain ⟨n,b4,hm⟩:=aC hm
   refine aQ (vs:=[zA #[bE d.Name,i64 d.Parameters,zS a4 d.Body.length c5]]) call181 rfl (aEQ b4 y q) ?_
   rintro _ d7 ⟨o,p,rfl,a6⟩
   refine aD (v:=zS o n.length p) (aF (aN (aJ (aA (bC (t':=2) jJ rfl rfl) (aA (bQ qO a6 (i:=1) rfl rfl rfl) (aA (bO (len:=d.Body.length) iH rfl) (aG (v:=i64 0) (aF (bM [] (fun f w=>aAH=some R/\aM G K (L) w) ?_ ?_)))))))))
   ·rintro f d8 ⟨hm,b5⟩
    unfold aAH at hm
    refine aB (aJ (aD (v:=i64 0) (aD (v:=i64 0) (aF ?_))));obtain rfl:=zI hm
    exact aX (kJ results144 rfl rfl ⟨rfl,b5⟩)
   obtain ⟨d9,b8,ho⟩:=aC hm
   refine dP [0,6,26,27] b8 (fun h f w=>f 28=i64 h/\aM G K (bN 241 K o p n::L) w) ?_ ?_
   ·exact ⟨rfl,(aM.arr 2 [0] a6 rfl)⟩
   ·rintro h e0 f e1 hm hr ⟨r,J⟩
    unfold pU at hm
    refine aJ (aA (cF r rfl) (aF (aN ?_)))
    rcases aH hm with ⟨V,hm⟩|⟨V,hm⟩
    ·refine aL V rfl (aW (aB (aN (bX (aJ (bF r ?_))))));obtain ⟨a,a7,hm⟩:=aC hm
     refine aA (cG iH rfl q rfl rfl r a7) ?_;obtain ⟨e2,b9,c0⟩:=bY.el (sz:=4) rfl q a7
     obtain ⟨j,c48,rfl,c1⟩:=c0
     refine aA (dZ (t:=0) (vs:=[i64 a.Kind,i64 a.Number,bE a.Name,zS j a.Arguments.length c48]) yD J b9 rfl rfl rfl) (eA (vs:=[i64 0,i64 0,bE ([]:bJ),zS none 0 0]) zeroValue152 J rfl (fun a8 e3 c3=>(aD (v:=i64 h) (eD (i:=0) (ns:=[i64 a.Kind,i64 a.Number,bE a.Name,zS j a.Arguments.length c48]) (us:=[i64 a.Kind,i64 a.Number,bE a.Name,zS j a.Arguments.length c48]) sizeOf152 c3 rfl rfl rfl rfl rfl (gJ rfl) rfl rfl (fun c4 (e:aM G K (box a8 152 [i64 a.Kind,i64 a.Number,bE a.Name,zS j a.Arguments.length c48]::bN 241 K o p n::L) c4)=>(aF (aN (dU (C:=fun w'=>aM G K (box a8 152 [i64 a.Kind,i64 a.Number,bE a.Name,zS j a.Arguments.length c48]::bN 241 K o p n::L) w') cI (by kernel_rfl) (aM.mono e (eH.drew _)) (bG (fun _ e=>fQ (us:=[i64 a.Kind,i64 a.Number,bE a.Name,zS j a.Arguments.length c48]) yD e (i:=0) rfl rfl rfl rfl) (bG (fun _ e=>bP (v:=zS a1 k.length c2) rfl) (bG (fun _ e=>bP (v:=zS o n.length p) rfl) (bG (fun _ e=>bP (v:=i64 h) rfl) ?_))))))))))))
     obtain ⟨u,O,hm⟩:=aC hm
     have c6:=gC e (i:=1) rfl O
     refine bG (fun _ e=>fT sl_237 rfl c6 rfl rfl rfl O) (bG (fun _ e=>R_ldOG (t:=0) (vs:=[i64 u.scope,zB u.behind]) ag_241 e (i:=1) rfl O rfl rfl rfl rfl) ?_);obtain ⟨l,c7,hm⟩:=aC hm
     refine eU (vs:=[zA #[i64 a.Kind,i64 a.Number,bE a.Name,zS j a.Arguments.length c48],zS a1 k.length c2,zA #[i64 u.scope,zB u.behind]]) (v:=i64 l) call182 rfl (fun _ e=>(aID c7 e c1 h3)) (bG (fun _ e=>fG (v:=i64 l) rfl) (eT (fun e4 a9=>(aB (aJ (aG (v:=i64 l) (aA (fV rfl rfl) (aF ?_))))))))
     rcases aH hm with ⟨a0,hm⟩|⟨a0,hm⟩
     ·refine aL a0 rfl (aJ (aG (v:=i64 h) (aG (v:=i64 l) (aD (v:=i64 h) (aD (v:=i64 l) (aF (aX (aY (aK (aK ?_))))))))))
      have c8:=hr _ (zI hm).symm
      subst c8
      have hm:(some (h,l))=some R:=ho
      clear hr ho
      obtain rfl:=zI hm
      exact aY (aK (aK (kJ results144 rfl rfl ⟨rfl,(aM.arr 2 [] a9 rfl)⟩)))
     ·exact aI a0 rfl (aW (bH (aB (aU (aA (cA r rfl) (aG (v:=i64 (wr (h+1))) (aF ⟨_,(zI hm).symm,aT,rfl,(aM.arr 1 [] a9 rfl)⟩)))))))
    ·refine aI V rfl (cD (bA (bA ?_)))
     have d0:=hr _ (zI hm).symm
     subst d0
     have hm:(aAH)=some R:=ho
     clear hr ho
     exact bR (aB ⟨aT,hm,(aM.arr 1 [] J rfl)⟩)
 refine dU (C:=fun w'=>aM G K (box b7 104 m::L) w') cI (by kernel_rfl) (aM.mono b (eH.drew _)) (bG (fun _ b=>bC (t':=2) jJ rfl rfl) (bG (fun _ b=>bQ qO b (i:=0) rfl rfl rfl) (bG (fun _ b=>bO (len:=d.Body.length) iH rfl) ?_)));obtain ⟨b0,d1,hm⟩:=aC hm
 refine eU (vs:=[i64 (d.Body.length:Int),i64 1,i64 20]) (v:=zB b0) call58 rfl (fun _ b=>(fK d1 b)) (bG (fun _ b=>dA rfl) (bG (fun _ b=>bP (v:=zB (!b0)) rfl) ?_))
 rcases aH hm with ⟨c,hm⟩|⟨c,hm⟩
 ·exact bW (g:=15) rfl rfl (eM c) (bW (g:=15) rfl rfl (eM c) (bW (g:=15) rfl rfl (eM c) (bW (g:=15) rfl rfl (eM c) (bW (g:=15) rfl rfl (eM c) (bW (g:=15) rfl rfl (eM c) (bG (fun _ b=>bI (v:=zB true) c rfl rfl) (eT (fun e5 d2=>(aB ⟨aT,true,hm,rfl,d2⟩)))))))))
 ·refine cQ (g:=15) rfl rfl (eW c) (bG (fun _ b=>fQ (us:=m) aCK b (i:=0) rfl rfl rfl rfl) (cQ (g:=15) rfl rfl (eW c) ?_));obtain ⟨a2,d3,hm⟩:=aC hm
  exact eU (vs:=[zA #[bE d.Name,i64 d.Parameters,zS a4 d.Body.length c5],i64 0]) (v:=i64 a2) call154 rfl (fun _ b=>(aBd d3 b q)) (cQ (g:=15) rfl rfl (eW c) (bG (fun _ b=>bC (t':=2) jJ rfl rfl) (cQ (g:=15) rfl rfl (eW c) (bG (fun _ b=>bQ qO b (i:=0) rfl rfl rfl) (cQ (g:=15) rfl rfl (eW c) (bG (fun _ b=>bO (len:=d.Body.length) iH rfl) (cQ (g:=15) rfl rfl (eW c) (bG (fun _ b=>fV rfl rfl) (bG (fun _ b=>bL (v:=zB (a2 != (d.Body.length:Int))) c rfl rfl) (eT (fun e6 d4=>(aB ⟨aT,a2 != (d.Body.length:Int),hm,rfl,d4⟩))))))))))))
theorem aFw {d:(List Definition)} {R:Bool} (hm:jF d=some R) (hs:aM G K (L) w) (k:bY K a1 c2 d):
  Calls prog 105 ([zS a1 d.length c2]:List Value).toArray w (eK fun v w'=>v=zB R/\aM G K (L) w'):=by
 refine aP func105 rfl (by kernel_rfl) (by show (1:Nat)<=45;decide) ?_;unfold jF at hm
 refine aJ (aD (v:=zB false) (aF (aN (aN (cP [0] (fun f w=>∃ o,kP d o=some R/\f 15=zB o/\aM G K (L) w) ?_ ?_)))))
 ·rintro f w6 ⟨o,hm,O,a0⟩
  unfold kP at hm
  refine aB ?_
  rcases aH hm with ⟨p,hm⟩|⟨p,hm⟩
  ·refine aL p O (aJ (aD (v:=zB false) (aF ?_)));obtain rfl:=zI hm
   exact aX (aK (aO results105 rfl ⟨rfl,a0⟩))
  ·refine aI p O (aW (aB (aN (aJ (aG (v:=zS a1 d.length c2) (aA (bO (len:=d.length) jO rfl) (aG (v:=i64 0) (aF (bM [] (fun f w=>nL=some R/\aM G K (L) w) ?_ ?_)))))))))
   ·rintro f e2 ⟨hm,b2⟩
    unfold nL at hm
    refine aB (aJ (aD (v:=zB true) (aF ?_)));obtain rfl:=zI hm
    exact aX (aO results105 rfl ⟨rfl,b2⟩)
   obtain ⟨e3,b4,ho⟩:=aC hm
   refine dP [0,16,17] b4 (fun l f w=>f 18=i64 l/\aM G K (L) w) ?_ ?_
   ·exact ⟨rfl,a0⟩
   ·rintro l b5 f e4 hm hr ⟨n,q⟩
    unfold kO at hm
    refine aJ (aA (cF n rfl) (aF (aN ?_)))
    rcases aH hm with ⟨r,hm⟩|⟨r,hm⟩
    ·refine aL r rfl (aW (aB (aN (bX (aJ (bF n ?_))))));obtain ⟨a,a2,hm⟩:=aC hm
     refine aA (cG jO rfl k rfl rfl n a2) ?_;obtain ⟨e6,b6,b7⟩:=bY.el (sz:=3) rfl k a2
     obtain ⟨h,j,rfl,b8⟩:=b7
     refine aA (dZ (t:=0) (vs:=[bE a.Name,i64 a.Parameters,zS h a.Body.length j]) aCK q b6 rfl rfl rfl) (eA (vs:=[bE ([]:bJ),i64 0,zS none 0 0]) zeroValue104 q rfl (fun u e7 b9=>(aD (v:=i64 l) (eD (i:=0) (ns:=[bE a.Name,i64 a.Parameters,zS h a.Body.length j]) (us:=[bE a.Name,i64 a.Parameters,zS h a.Body.length j]) sizeOf104 b9 rfl rfl rfl rfl rfl (gJ rfl) rfl rfl (fun c0 (b:aM G K (box u 104 [bE a.Name,i64 a.Parameters,zS h a.Body.length j]::L) c0)=>(aF (aN (aN (cP [0,4,16,17,18] (fun f w=>∃ x,kN d l a x=some b5/\f 35=zB x/\aM G K (box u 104 [bE a.Name,i64 a.Parameters,zS h a.Body.length j]::L) w) ?_ ?_)))))))))
     ·rintro f e8 ⟨x,hm,a3,y⟩
      unfold kN at hm
      refine aB ?_
      rcases aH hm with ⟨z,hm⟩|⟨z,hm⟩
      ·refine aL z a3 (aJ (aD (v:=zB false) (aF (aX (aK (aY (aK (aK ?_))))))))
       have c1:=hr _ (zI hm).symm
       subst c1
       have hm:(some false)=some R:=ho
       clear hr ho
       obtain rfl:=zI hm
       exact aY (aK (aK (aO results105 rfl ⟨rfl,(aM.arr 1 [] y rfl)⟩)))
      ·refine aI z a3 (aW (aB (aJ (aG (v:=zS a1 d.length c2) (aA (fQ (us:=[bE a.Name,i64 a.Parameters,zS h a.Body.length j]) aCK y (i:=0) rfl rfl rfl rfl) ?_)))));obtain ⟨m,c4,hm⟩:=aC hm
       refine aQ (vs:=[zS a1 d.length c2,zA #[bE a.Name,i64 a.Parameters,zS h a.Body.length j]]) call144 rfl (aKg c4 y k b8) ?_
       rintro _ e9 ⟨rfl,a4⟩
       refine aG (v:=Value.tuple #[i64 m.1,i64 m.2]) (aA (cJ rfl rfl) (aA (cJ rfl rfl) (aD (v:=i64 m.1) (aD (v:=i64 m.2) (aF (aJ (aG (v:=i64 m.2) (aA (fV rfl rfl) (aF ?_)))))))))
       rcases aH hm with ⟨J,hm⟩|⟨J,hm⟩
       ·refine aL J rfl (aJ (aD (v:=zB false) (aF (aX (aY (aK (aK ?_)))))))
        have c5:=hr _ (zI hm).symm
        subst c5
        have hm:(some false)=some R:=ho
        clear hr ho
        obtain rfl:=zI hm
        exact aY (aK (aK (aO results105 rfl ⟨rfl,(aM.arr 1 [] a4 rfl)⟩)))
       ·exact aI J rfl (aW (bH (aB (aU (aA (cA n rfl) (aG (v:=i64 (wr (l+1))) (aF ⟨_,(zI hm).symm,aT,rfl,(aM.arr 1 [] a4 rfl)⟩)))))))
     refine dU (C:=fun w'=>aM G K (box u 104 [bE a.Name,i64 a.Parameters,zS h a.Body.length j]::L) w') cI (by kernel_rfl) (aM.mono b (eH.drew _)) (bG (fun _ b=>bC (t':=0) vU rfl rfl) (bG (fun _ b=>bQ fA b (i:=0) rfl rfl rfl) ?_));obtain ⟨a5,c7,hm⟩:=aC hm
     refine eU (vs:=[bE a.Name]) (v:=zB a5) call142 rfl (fun _ b=>(aIo c7 b)) (bG (fun _ b=>dA rfl) (bG (fun _ b=>bP (v:=zB (!a5)) rfl) ?_))
     rcases aH hm with ⟨c,hm⟩|⟨c,hm⟩
     ·exact bW (g:=27) rfl rfl (eM c) (bW (g:=27) rfl rfl (eM c) (bW (g:=27) rfl rfl (eM c) (bW (g:=27) rfl rfl (eM c) (bW (g:=27) rfl rfl (eM c) (bW (g:=27) rfl rfl (eM c) (bW (g:=27) rfl rfl (eM c) (bG (fun _ b=>bI (v:=zB true) c rfl rfl) (eT (fun f0 c9=>(aB ⟨aT,true,hm,rfl,c9⟩))))))))))
     ·refine cQ (g:=27) rfl rfl (eW c) (bG (fun _ b=>bP (v:=zS a1 d.length c2) rfl) (cQ (g:=27) rfl rfl (eW c) (bG (fun _ b=>bP (v:=i64 l) rfl) (cQ (g:=27) rfl rfl (eW c) ?_))));obtain ⟨d0,a6,hm⟩:=aC hm
      obtain ⟨d1,d2,a7⟩:=Cut.ex 3 a1 c2 0
      have d3:=bY.cut' k a6 a7
      refine bG (fun _ b=>R_slVH jO k.room a7 rfl rfl rfl a6) (cQ (g:=27) rfl rfl (eW c) (bG (fun _ b=>bC (t':=0) vU rfl rfl) (cQ (g:=27) rfl rfl (eW c) (bG (fun _ b=>bQ fA b (i:=0) rfl rfl rfl) (cQ (g:=27) rfl rfl (eW c) ?_)))));obtain ⟨V,d4,hm⟩:=aC hm
      exact eU (vs:=[zS d1 d0.length d2,bE a.Name]) (v:=i64 V) call143 rfl (fun _ b=>(aGg d4 b d3)) (cQ (g:=27) rfl rfl (eW c) (bG (fun _ b=>sO rfl rfl) (bG (fun _ b=>bL (v:=zB (decide (0<=V))) c rfl rfl) (eT (fun f1 d5=>(aB ⟨aT,decide (0<=V),hm,rfl,d5⟩))))))
    ·refine aI r rfl (cD (bA (bA ?_)))
     have d6:=hr _ (zI hm).symm
     subst d6
     have hm:(nL)=some R:=ho
     clear hr ho
     exact bR (aB ⟨aT,hm,q⟩)
 refine aU (aG (v:=zS a1 d.length c2) (aA (bO (len:=d.length) jO rfl) ?_));obtain ⟨d7,d8,hm⟩:=aC hm
 refine aQ (vs:=[i64 (d.length:Int),i64 1,i64 4]) call58 rfl (fK d8 hs) ?_
 rintro _ f2 ⟨rfl,a8⟩
 refine aA (dA rfl) (aG (v:=zB (!d7)) ?_)
 rcases aH hm with ⟨e,hm⟩|⟨e,hm⟩
 ·exact aR e rfl rfl (aR e rfl rfl (aR e rfl rfl (aA (bI (v:=zB true) e rfl rfl) (aF ⟨aT,true,hm,rfl,a8⟩))))
 ·refine bD e rfl rfl (aG (v:=zS a1 d.length c2) (bD e rfl rfl ?_));obtain ⟨a9,d9,hm⟩:=aC hm
  refine aQ (vs:=[zS a1 d.length c2]) call141 rfl (aHX d9 a8 k) ?_
  rintro _ f3 ⟨rfl,e0⟩
  exact bD e rfl rfl (aA (dA rfl) (aA (bL (v:=zB (!a9)) e rfl rfl) (aF ⟨aT,!a9,hm,rfl,e0⟩)))
theorem aHZ {n:Int} {R:Bool} (hm:aAI n=some R) (a:aM G K (L) w):
  Calls prog 184 ([i64 n]:List Value).toArray w (eK fun v w'=>v=zB R/\aM G K (L) w'):=by
 refine aP func184 rfl (by kernel_rfl) (by show (1:Nat)<=6;decide) ?_;unfold aAI at hm
 refine aJ (aD (v:=zB false) (aF (aJ (aG (v:=i64 n) ?_))));obtain ⟨b,c,hm⟩:=aC hm
 refine aQ (vs:=[i64 n]) call185 rfl (aHi c a) ?_
 rintro _ g ⟨rfl,d⟩
 refine aA (dA rfl) (aD (v:=zB (!b)) (aF ?_));obtain rfl:=zI hm
 exact aX (aO results184 rfl ⟨rfl,d⟩)
theorem uI {s_:(List Int)} {R:Int} (hm:gX s_=some R) (k:aM G K (L) w) (g:bY K a1 c2 s_):
  Calls prog 219 ([zS a1 s_.length c2,Value.func (.func 184) #[] #[]]:List Value).toArray w (eK fun v w'=>v=i64 R/\aM G K (L) w'):=by
 refine aP func219 rfl (by kernel_rfl) (by show (2:Nat)<=19;decide) ?_;unfold gX at hm
 refine aJ (aD (v:=i64 0) (aF (aN (aJ (aG (v:=zS a1 s_.length c2) (aA (bO (len:=s_.length) fN rfl) (aG (v:=i64 0) (aF (bM [] (fun f w=>gL=some R/\aM G K (L) w) ?_ ?_)))))))))
 ·rintro f y ⟨hm,l⟩
  unfold gL at hm
  refine aB (aJ (aD (v:=i64 (-1)) (aF ?_)));obtain rfl:=zI hm
  exact aX (aO results219 rfl ⟨rfl,l⟩)
 obtain ⟨z,n,ho⟩:=aC hm
 refine dP [0,1,7] n (fun a f w=>f 8=i64 a/\aM G K (L) w) ?_ ?_
 ·exact ⟨rfl,k⟩
 ·rintro a J f V hm hr ⟨b,c⟩
  unfold fO at hm
  refine aJ (aA (cF b rfl) (aF (aN ?_)))
  rcases aH hm with ⟨d,hm⟩|⟨d,hm⟩
  ·refine aL d rfl (aW (aB (aN (bX (aJ (bF b (aD (v:=i64 a) (aF (aJ (aG (v:=Value.func (.func 184) #[] #[]) (aG (v:=zS a1 s_.length c2) (aG (v:=i64 a) ?_))))))))))));obtain ⟨h,i,hm⟩:=aC hm
   refine aA (cG fN rfl g rfl rfl rfl i) ?_;obtain ⟨O,o,p⟩:=bY.el (sz:=1) rfl g i
   cases p
   refine aA (cC (t:=0) dC c o rfl rfl) ?_;obtain ⟨a0,q,hm⟩:=aC hm
   refine sZ (vs:=[i64 h]) (caps:=[]) (us:=[i64 h]) rfl call184 rfl rfl (aHZ q c) ?_
   rintro _ a2 ⟨rfl,j⟩
   refine aF ?_
   rcases aH hm with ⟨e,hm⟩|⟨e,hm⟩
   ·refine aL e rfl (aJ (aG (v:=i64 a) (aD (v:=i64 a) (aF (aX (aY (aK (aK ?_))))))))
    have r:=hr _ (zI hm).symm
    subst r
    have hm:(some a)=some R:=ho
    clear hr ho
    obtain rfl:=zI hm
    exact aY (aK (aK (aO results219 rfl ⟨rfl,j⟩)))
   ·exact aI e rfl (aW (bH (aB (aU (aA (cA b rfl) (aG (v:=i64 (wr (a+1))) (aF ⟨_,(zI hm).symm,aT,rfl,j⟩)))))))
  ·refine aI d rfl (cD (bA (bA ?_)))
   have x:=hr _ (zI hm).symm
   subst x
   have hm:(gL)=some R:=ho
   clear hr ho
   exact bR (aB ⟨aT,hm,c⟩)
theorem rX {s_:(List Int)} {R:Bool} (hm:gM s_=some R) (a:aM G K (L) w) (b:bY K a1 c2 s_):
  Calls prog 183 ([zS a1 s_.length c2,Value.func (.func 184) #[] #[]]:List Value).toArray w (eK fun v w'=>v=zB R/\aM G K (L) w'):=by
 refine aP func183 rfl (by kernel_rfl) (by show (2:Nat)<=9;decide) ?_;unfold gM at hm
 refine aJ (aD (v:=zB false) (aF (aJ (aG (v:=zS a1 s_.length c2) (aG (v:=Value.func (.func 184) #[] #[]) ?_)))));obtain ⟨c,d,hm⟩:=aC hm
 refine aQ (vs:=[zS a1 s_.length c2,Value.func (.func 184) #[] #[]]) call219 rfl (uI d a b) ?_
 rintro _ h ⟨rfl,e⟩
 refine aA (sO rfl rfl) (aD (v:=zB (decide (0<=c))) (aF ?_));obtain rfl:=zI hm
 exact aX (aO results183 rfl ⟨rfl,e⟩)
theorem aFx {a:(List Int)} {R:Bool} (hm:yZ a=some R) (b:aM G K (L) w) (c:bY K a1 c2 a):
  Calls prog 147 ([zS a1 a.length c2]:List Value).toArray w (eK fun v w'=>v=zB R/\aM G K (L) w'):=by
 refine aP func147 rfl (by kernel_rfl) (by show (1:Nat)<=6;decide) ?_;unfold yZ at hm
 refine aJ (aD (v:=zB false) (aF (aJ (aG (v:=zS a1 a.length c2) ?_))));obtain ⟨d,e,hm⟩:=aC hm
 refine aQ (vs:=[zS a1 a.length c2,Value.func (.func 184) #[] #[]]) call183 rfl (rX e b c) ?_
 rintro _ i ⟨rfl,g⟩
 refine aA (dA rfl) (aD (v:=zB (!d)) (aF ?_));obtain rfl:=zI hm
 exact aX (aO results147 rfl ⟨rfl,g⟩)
theorem aIE {e:(List Definition)} {c:bT} {R:Bool} (hm:wP e c=some R) (q:aM G K (L) w) (k:bY K a1 c2 e) (r:bY K a4 c5 c.Values):
  Calls prog 108 ([zS a1 e.length c2,zA #[i64 c.Definition,zS a4 c.Values.length c5]]:List Value).toArray w (eK fun v w'=>v=zB R/\aM G K (L) w'):=by
 let l:=[i64 c.Definition,zS a4 c.Values.length c5]
 refine aP func108 rfl (by kernel_rfl) (by show (2:Nat)<=27;decide) ?_;unfold wP at hm
 refine aJ (dM (v:=zA #[i64 c.Definition,zS a4 c.Values.length c5]) (vs:=l) q rfl rfl (fun u w8 a=>(aD (v:=zB false) (aF (aN (cP [] (fun f w=>∃ j,mU j=some R/\f 4=zB j/\aM G K (L) w) ?_ ?_))))))
 ·rintro f a6 ⟨j,hm,x,y⟩
  unfold mU at hm
  refine aB ?_;obtain rfl:=zI hm
  exact aX (aO results108 rfl ⟨x,y⟩)
 refine dU (C:=fun w'=>aM G K (box u 100 l::L) w') cI (by kernel_rfl) (aM.mono a (eH.drew _)) (bG (fun _ a=>bC (t':=0) vW rfl rfl) (bG (fun _ a=>bQ dC a (i:=0) rfl rfl rfl) (bG (fun _ a=>bP (v:=zS a1 e.length c2) rfl) (bG (fun _ a=>bO (len:=e.length) jO rfl) ?_))));obtain ⟨m,J,hm⟩:=aC hm
 refine eU (vs:=[i64 c.Definition,i64 (e.length:Int)]) (v:=zB m) call146 rfl (fun _ a=>(aGh J a)) (bG (fun _ a=>bP (v:=zB m) rfl) ?_)
 rcases aH hm with ⟨b,hm⟩|⟨b,hm⟩
 ·refine cQ (g:=10) rfl rfl b (bG (fun _ a=>bC (t':=1) vX rfl rfl) (cQ (g:=10) rfl rfl b (bG (fun _ a=>bQ vL a (i:=0) rfl rfl rfl) (cQ (g:=10) rfl rfl b (bG (fun _ a=>bO (len:=c.Values.length) fN rfl) (cQ (g:=10) rfl rfl b (bG (fun _ a=>bP (v:=zS a1 e.length c2) rfl) (cQ (g:=10) rfl rfl b (bG (fun _ a=>bC (t':=0) vW rfl rfl) (cQ (g:=10) rfl rfl b (bG (fun _ a=>bQ dC a (i:=0) rfl rfl rfl) (cQ (g:=10) rfl rfl b ?_))))))))))))
  obtain ⟨n,o,hm⟩:=aC hm
  refine bG (fun _ a=>cG jO rfl k rfl rfl rfl o) ?_;obtain ⟨a7,p,V⟩:=bY.el (sz:=3) rfl k o
  obtain ⟨a8,a9,rfl,b0⟩:=V
  refine cQ (g:=10) rfl rfl b (bG (fun _ a=>cH (k':=c.Definition.toNat * 3+1) rE rfl p rfl) (cQ (g:=10) rfl rfl b (bG (fun _ a=>cC (t:=1) dC a p rfl rfl) (cQ (g:=10) rfl rfl b (bG (fun _ a=>cK rfl rfl) (bG (fun _ a=>bI (v:=zB ((c.Values.length:Int) == n.Parameters)) b rfl rfl) (bG (fun _ a=>bP (v:=zB ((c.Values.length:Int) == n.Parameters)) rfl) ?_)))))))
  rcases aH hm with ⟨d,hm⟩|⟨d,hm⟩
  ·refine cQ (g:=22) rfl rfl d (bG (fun _ a=>bC (t':=1) vX rfl rfl) (cQ (g:=22) rfl rfl d (bG (fun _ a=>bQ vL a (i:=0) rfl rfl rfl) (cQ (g:=22) rfl rfl d ?_))));obtain ⟨h,O,hm⟩:=aC hm
   exact eU (vs:=[zS a4 c.Values.length c5]) (v:=zB h) call147 rfl (fun _ a=>(aFx O a r)) (bG (fun _ a=>bI (v:=zB h) d rfl rfl) (bG (fun _ a=>fG (v:=zB h) rfl) (eT (fun b1 a0=>(aB ⟨aT,h,hm,rfl,(aM.arr 1 [] a0 rfl)⟩)))))
  ·exact bW (g:=22) rfl rfl (eB d) (bW (g:=22) rfl rfl (eB d) (bW (g:=22) rfl rfl (eB d) (bG (fun _ a=>bL (v:=zB false) d rfl rfl) (bG (fun _ a=>fG (v:=zB false) rfl) (eT (fun b2 a2=>(aB ⟨aT,false,hm,rfl,(aM.arr 1 [] a2 rfl)⟩)))))))
 ·exact bW (g:=10) rfl rfl (eB b) (bW (g:=10) rfl rfl (eB b) (bW (g:=10) rfl rfl (eB b) (bW (g:=10) rfl rfl (eB b) (bW (g:=10) rfl rfl (eB b) (bW (g:=10) rfl rfl (eB b) (bW (g:=10) rfl rfl (eB b) (bW (g:=10) rfl rfl (eB b) (bW (g:=10) rfl rfl (eB b) (bW (g:=10) rfl rfl (eB b) (bG (fun _ a=>bL (v:=zB false) b rfl rfl) (bG (fun _ a=>bP (v:=zB false) rfl) (bW (g:=22) rfl rfl (eB (by decide:¬ false=true)) (bW (g:=22) rfl rfl (eB (by decide:¬ false=true)) (bW (g:=22) rfl rfl (eB (by decide:¬ false=true)) (bG (fun _ a=>bL (v:=zB false) (by decide:¬ false=true) rfl rfl) (bG (fun _ a=>fG (v:=zB false) rfl) (eT (fun b3 a3=>(aB ⟨aT,false,hm,rfl,(aM.arr 1 [] a3 rfl)⟩)))))))))))))))))))
theorem aGi {a b:bU} {R:Int} (hm:oA a b=some R) (m:aM G K (L) w):
  Calls prog 149 ([zA #[bE a.Left,bE a.Right,bE a.Result],zA #[bE b.Left,bE b.Right,bE b.Result]]:List Value).toArray w (eK fun v w'=>v=i64 R/\aM G K (L) w'):=by
 let c:=[bE a.Left,bE a.Right,bE a.Result]
 let d:=[bE b.Left,bE b.Right,bE b.Result]
 refine aP func149 rfl (by kernel_rfl) (by show (2:Nat)<=16;decide) ?_;unfold oA at hm
 refine aJ (dM (v:=zA #[bE a.Left,bE a.Right,bE a.Result]) (vs:=c) m rfl rfl (fun j w2 n=>(dM (v:=zA #[bE b.Left,bE b.Right,bE b.Result]) (vs:=d) n rfl rfl (fun k w5 e=>(aD (v:=i64 0) (aF (aJ (aA (bC (t':=0) kM rfl rfl) (aA (bQ fA e (i:=1) rfl rfl rfl) (aA (bC (t':=1) mC rfl rfl) (aA (bQ fA e (i:=1) rfl rfl rfl) (gA (Kt:=K) (xs:=([a.Left,a.Right]:List bJ)) (cs:=[bE a.Left,bE a.Right]) (vs:=[(0,bE a.Left),(1,bE a.Right)]) hH ez_9 rfl rfl e rfl (by kernel_rfl) rfl rfl rfl ⟨rfl,rfl,trivial⟩ (fun g o (h:aM G K (bN 9 K g 2 ([a.Left,a.Right]:List bJ)::box k 107 d::box j 107 c::L) o)=>(aA (bC (t':=0) kM rfl rfl) (aA (bQ fA h (i:=1) rfl rfl rfl) (aA (bC (t':=1) mC rfl rfl) (aA (bQ fA h (i:=1) rfl rfl rfl) (gA (Kt:=K) (xs:=([b.Left,b.Right]:List bJ)) (cs:=[bE b.Left,bE b.Right]) (vs:=[(0,bE b.Left),(1,bE b.Right)]) hH ez_9 rfl rfl h rfl (by kernel_rfl) rfl rfl rfl ⟨rfl,rfl,trivial⟩ (fun l p (q:aM G K (bN 9 K l 2 ([b.Left,b.Right]:List bJ)::bN 9 K g 2 ([a.Left,a.Right]:List bJ)::box k 107 d::box j 107 c::L) p)=>?_)))))))))))))))))))
 obtain ⟨a8,r,t,u,x⟩:=aM.lendSp q (Hp.le_refl _) zt1
 obtain ⟨a9,y,z,J,V⟩:=aM.lendSp u r .head
 obtain ⟨O,a0,hm⟩:=aC hm
 refine aQ (vs:=[zS g ([a.Left,a.Right]:List bJ).length 2,zS l ([b.Left,b.Right]:List bJ).length 2]) call186 rfl (uH a0 J (t.mono y) z) ?_
 rintro _ b0 ⟨rfl,a1⟩
 have a2:=V _ _ a1
 have a3:=x _ _ a2
 refine aD (v:=i64 O) (aF ?_);obtain rfl:=zI hm
 exact aX (aO results149 rfl ⟨rfl,(aM.arr 4 [] a3 rfl)⟩)
theorem aHj {o p:bU} {c:Nat} {R:Bool} (hm:xL o p=some R) (h:aM G K (L) w) (d:iG K a1 c [bE p.Left,bE p.Right,bE p.Result]):
  Calls prog 151 ([zA #[bE o.Left,bE o.Right,bE o.Result],eP a1 c]:List Value).toArray w (eK fun v w'=>v=zB R/\aM G K (L) w'):=by
 refine aP func151 rfl (by kernel_rfl) (by show (2:Nat)<=16;decide) ?_;unfold xL at hm
 refine aJ (dM (v:=zA #[bE o.Left,bE o.Right,bE o.Result]) (vs:=[bE o.Left,bE o.Right,bE o.Result]) h rfl rfl (fun m n b=>(aD (v:=zB false) (aF (aN (cP [] (fun f w=>∃ e,nH e=some R/\f 3=zB e/\aM G K (L) w) ?_ ?_))))))
 ·rintro f q ⟨e,hm,j,k⟩
  unfold nH at hm
  refine aB ?_;obtain rfl:=zI hm
  exact aX (aO results151 rfl ⟨j,k⟩)
 refine aU (aA (bC (t':=0) kM rfl rfl) (aA (bQ fA b (i:=0) rfl rfl rfl) (aA (cH (k':=c+2) rF rfl d rfl) (aA (cC (t:=2) fA b d rfl rfl) (aA (kS rfl rfl) (aG (v:=zB (o.Left == p.Result)) ?_))))))
 rcases aH hm with ⟨a,hm⟩|⟨a,hm⟩
 ·exact aR a rfl rfl (aR a rfl rfl (aR a rfl rfl (aR a rfl rfl (aR a rfl rfl (aA (bI (v:=zB true) a rfl rfl) (aD (v:=zB true) (aF ⟨aT,true,hm,rfl,(aM.arr 1 [] b rfl)⟩)))))))
 ·exact bD a rfl rfl (aA (bC (t':=1) mC rfl rfl) (bD a rfl rfl (aA (bQ fA b (i:=0) rfl rfl rfl) (bD a rfl rfl (aA (cH (k':=c+2) rF rfl d rfl) (bD a rfl rfl (aA (cC (t:=2) fA b d rfl rfl) (bD a rfl rfl (aA (kS rfl rfl) (aA (bL (v:=zB (o.Right == p.Result)) a rfl rfl) (aD (v:=zB (o.Right == p.Result)) (aF ⟨aT,o.Right == p.Result,hm,rfl,(aM.arr 1 [] b rfl)⟩))))))))))))
theorem mL {s_:(List bU)} {d:bU} {c:Nat} {R:Int} (hm:eZ s_ d=some R) (m:aM G K (L) w) (j:bY K a1 c2 s_) (n:iG K a4 c [bE d.Left,bE d.Right,bE d.Result]):
  Calls prog 164 ([zS a1 s_.length c2,Value.func (.func 151) #[] #[eP a4 c]]:List Value).toArray w (eK fun v w'=>v=i64 R/\aM G K (L) w'):=by
 refine aP func164 rfl (by kernel_rfl) (by show (2:Nat)<=19;decide) ?_;unfold eZ at hm
 refine aJ (aD (v:=i64 0) (aF (aN (aJ (aG (v:=zS a1 s_.length c2) (aA (bO (len:=s_.length) mB rfl) (aG (v:=i64 0) (aF (bM [] (fun f w=>eN=some R/\aM G K (L) w) ?_ ?_)))))))))
 ·rintro f V ⟨hm,o⟩
  unfold eN at hm
  refine aB (aJ (aD (v:=i64 (-1)) (aF ?_)));obtain rfl:=zI hm
  exact aX (aO results164 rfl ⟨rfl,o⟩)
 obtain ⟨O,q,ho⟩:=aC hm
 refine dP [0,1,7] q (fun b f w=>f 8=i64 b/\aM G K (L) w) ?_ ?_
 ·exact ⟨rfl,m⟩
 ·rintro b a0 f a2 hm hr ⟨e,g⟩
  unfold dQ at hm
  refine aJ (aA (cF e rfl) (aF (aN ?_)))
  rcases aH hm with ⟨h,hm⟩|⟨h,hm⟩
  ·refine aL h rfl (aW (aB (aN (bX (aJ (bF e (aD (v:=i64 b) (aF (aJ (aG (v:=Value.func (.func 151) #[] #[eP a4 c]) (aG (v:=zS a1 s_.length c2) (aG (v:=i64 b) ?_))))))))))));obtain ⟨a,k,hm⟩:=aC hm
   refine aA (cG mB rfl j rfl rfl rfl k) ?_;obtain ⟨a3,r,u⟩:=bY.el (sz:=3) rfl j k
   cases u
   refine aA (dZ (t:=0) (vs:=[bE a.Left,bE a.Right,bE a.Result]) aEO g r rfl rfl rfl) ?_;obtain ⟨a5,x,hm⟩:=aC hm
   refine sZ (vs:=[zA #[bE a.Left,bE a.Right,bE a.Result]]) (caps:=[eP a4 c]) (us:=[zA #[bE a.Left,bE a.Right,bE a.Result],eP a4 c]) rfl call151 rfl rfl (aHj x g n) ?_
   rintro _ a6 ⟨rfl,l⟩
   refine aF ?_
   rcases aH hm with ⟨i,hm⟩|⟨i,hm⟩
   ·refine aL i rfl (aJ (aG (v:=i64 b) (aD (v:=i64 b) (aF (aX (aY (aK (aK ?_))))))))
    have y:=hr _ (zI hm).symm
    subst y
    have hm:(some b)=some R:=ho
    clear hr ho
    obtain rfl:=zI hm
    exact aY (aK (aK (aO results164 rfl ⟨rfl,l⟩)))
   ·exact aI i rfl (aW (bH (aB (aU (aA (cA e rfl) (aG (v:=i64 (wr (b+1))) (aF ⟨_,(zI hm).symm,aT,rfl,l⟩)))))))
  ·refine aI h rfl (cD (bA (bA ?_)))
   have J:=hr _ (zI hm).symm
   subst J
   have hm:(eN)=some R:=ho
   clear hr ho
   exact bR (aB ⟨aT,hm,g⟩)
theorem lO {s_:(List bU)} {a:bU} {b:Nat} {R:Bool} (hm:dR s_ a=some R) (c:aM G K (L) w) (d:bY K a1 c2 s_) (e:iG K a4 b [bE a.Left,bE a.Right,bE a.Result]):
  Calls prog 150 ([zS a1 s_.length c2,Value.func (.func 151) #[] #[eP a4 b]]:List Value).toArray w (eK fun v w'=>v=zB R/\aM G K (L) w'):=by
 refine aP func150 rfl (by kernel_rfl) (by show (2:Nat)<=9;decide) ?_;unfold dR at hm
 refine aJ (aD (v:=zB false) (aF (aJ (aG (v:=zS a1 s_.length c2) (aG (v:=Value.func (.func 151) #[] #[eP a4 b]) ?_)))));obtain ⟨g,h,hm⟩:=aC hm
 refine aQ (vs:=[zS a1 s_.length c2,Value.func (.func 151) #[] #[eP a4 b]]) call164 rfl (mL h c d e) ?_
 rintro _ k ⟨rfl,i⟩
 refine aA (sO rfl rfl) (aD (v:=zB (decide (0<=g))) (aF ?_));obtain rfl:=zI hm
 exact aX (aO results150 rfl ⟨rfl,i⟩)
end Gv
