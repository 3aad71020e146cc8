/- Walks, printed by program. -/
import Derived.Test.YtkcggmmjnpdgnaaGreatDoorJWk9
set_option linter.all false
namespace Gv
open Gv.Hp renaming le_refl→zR
open Go.Value renaming slice→zS,bool→zB,agg→zA
open Go Go.Proofs Go.Proofs.Tryz
set_option maxRecDepth 20000
set_option maxHeartbeats 40000000
variable {G:uK} {K:Hp} {L:List gQ} {w:World} {a1 a4:Option Addr} {c2 c5:Nat}
theorem yG {l more:(List UInt8)} {R:Bool} (hm:rC l more=some R) (hs:aI G K (L) w) (u:G.lo=0) (h3:bW K a1 c2 l) (h6:bW K a4 c5 more):
  Calls prog 3 ([zS a1 l.length c2,zS a4 more.length c5]:List Value).toArray w (eV fun v w'=>v=zB R/\aI G K (L) w'):=by
 let x:=zG
 refine aR func3 rfl (by kernel_rfl) (by show (2:Nat)<=67;decide) ?_;unfold rC at hm
 refine aK (aE (v:=zB false) (aG (aO (aO (cH [0,1] (fun f w=>∃ y,fI l more y=some R/\f 19=zB y/\aI G K (L) w) ?_ ?_)))))
 ·rintro f w9 ⟨y,hm,e8,b8⟩
  unfold fI at hm
  refine aB ?_
  rcases aH hm with ⟨a5,hm⟩|⟨a5,hm⟩
  ·exact eB
  ·refine aJ a5 e8 (aW (aB (aK (aF (v:=zS a1 l.length c2) ?_))));obtain ⟨a,b9,hm⟩:=aC hm
   refine aP (vs:=[zS a1 l.length c2]) call5 rfl (aDG b9 b8 h3) ?_
   rintro _ e3 ⟨z,b,c,d,e,g,h,j,k,p,q,rfl,J,V,Z,a6,a7,c0,c1⟩
   refine aF (v:=Value.tuple #[zA (zCa a.1 b c d e),zA (zCa a.2.1 g h j k),zS p a.2.2.length q]) (aD (dC rfl rfl) (aD (dC rfl rfl) (aD (dC rfl rfl) (cI (vs:=x) zeroValue27 c1 rfl (fun a8 e4 c3=>(cI (vs:=x) zeroValue27 c3 rfl (fun a9 e5 c4=>(cG (i:=1) (ns:=(zC a.1 b c d e)) (us:=(zC a.1 b c d e)) sizeOf27 c4 rfl rfl rfl rfl rfl (dN rfl) rfl rfl (fun c6 (c7:aI G z (box a9 27 x::box a8 27 (zC a.1 b c d e)::L) c6)=>(cG (i:=0) (ns:=(zC a.2.1 g h j k)) (us:=(zC a.2.1 g h j k)) sizeOf27 c7 rfl rfl rfl rfl rfl (dN rfl) rfl rfl (fun c8 (a0:aI G z (box a9 27 (zC a.2.1 g h j k)::box a8 27 (zC a.1 b c d e)::L) c8)=>(aE (v:=zS p a.2.2.length q) (aG (aK (aD (eJ (us:=(zC a.1 b c d e)) eS a0 (i:=1) rfl rfl rfl rfl) (aD (eJ (us:=(zC a.2.1 g h j k)) eS a0 (i:=0) rfl rfl rfl rfl) (aF (v:=zS p a.2.2.length q) ?_)))))))))))))))))
   obtain ⟨b0,c9,hm⟩:=aC hm
   refine aP (vs:=[zA (zCa a.1 b c d e),zA (zCa a.2.1 g h j k),zS p a.2.2.length q]) call6 rfl (aHb c9 a0 u V Z a6 a7 c0) ?_
   rintro _ e6 ⟨rfl,b1⟩
   refine aE (v:=zB b0) (aG (aO (aK (aF (v:=zB b0) (aD (eC rfl) (aG ?_))))))
   rcases aH hm with ⟨c48,hm⟩|⟨c48,hm⟩
   ·exact eB
   ·refine aJ c48 rfl (aW (aB (aK (aF (v:=zS a4 more.length c5) (aD (eJ (us:=(zC a.1 b c d e)) eS b1 (i:=1) rfl rfl rfl rfl) ?_)))));obtain ⟨m,d0,hm⟩:=aC hm
    refine aP (vs:=[zS a4 more.length c5,zA (zCa a.1 b c d e)]) call8 rfl (aHe d0 b1 (h6.mono J) V Z) ?_
    rintro _ e7 ⟨n,o,rfl,a2⟩
    refine aE (v:=zS n m.length o) (aG (aK (aF (v:=zS n m.length o) (aD (eJ (us:=(zC a.1 b c d e)) eS a2 (i:=2) rfl rfl rfl rfl) (aD (bH (t':=1) oC rfl rfl) (aD (cR cE a2 (i:=2) rfl rfl rfl) ?_))))));obtain ⟨e9,b2,d1,d2,d3⟩:=aI.lendSp a2 J .head
    obtain ⟨r,d4,hm⟩:=aC hm
    refine aP (vs:=[zS n m.length o,zA (zCa a.1 b c d e),i64 a.1.I]) call9 rfl (aAw d4 d2 u d1 (V.mono b2) (Z.mono b2)) ?_
    rintro _ f0 ⟨rfl,d5⟩
    have a3:=d3 _ _ d5
    refine aF (v:=Value.tuple #[zB r.1,i64 r.2]) (aD (dC rfl rfl) (aD (dC rfl rfl) (aE (v:=zB r.1) (aE (v:=i64 r.2) (aG (aK (aF (v:=zS n m.length o) (aD (eJ (us:=(zC a.2.1 g h j k)) eS a3 (i:=1) rfl rfl rfl rfl) (aD (bH (t':=1) oC rfl rfl) (aD (cR cE a3 (i:=1) rfl rfl rfl) ?_))))))))));obtain ⟨f1,b3,d6,d7,d8⟩:=aI.lendSp a3 J .head
    obtain ⟨t,d9,hm⟩:=aC hm
    refine aP (vs:=[zS n m.length o,zA (zCa a.2.1 g h j k),i64 a.2.1.I]) call9 rfl (aAw d9 d7 u d6 (a6.mono b3) (a7.mono b3)) ?_
    rintro _ f2 ⟨rfl,e0⟩
    have f3:=d8 _ _ e0
    exact aF (v:=Value.tuple #[zB t.1,i64 t.2]) (aD (dC rfl rfl) (aD (dC rfl rfl) (aE (v:=zB t.1) (aE (v:=i64 t.2) (aG (aO (cH [] (fun f w=>∃ b4,kI b4=some R/\f 4=zB b4/\aI G z (L) w) eB eB)))))))
 exact eB
end Gv
