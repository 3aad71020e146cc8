/- Texts with bytes replaced: contracts, said of pieces of memory. -/
import Derived.Test.YthbfapccpmppoaaGreatDoorJWk0
set_option linter.all false
namespace Gv
open Go.Value renaming slice→zS
open Option.some renaming inj→zI
open Go Go.Proofs Go.RowKit Go.Sort
section
variable {G:kH} {K:Hp} {L:List eW} {w:World}
theorem aNm {s o n R:aL} (hs:aF G K L w) (hG:G.lo=0) (hm:aAY s o n=some R):
  Calls Tryz.prog 53 ([str s,str o,str n]:List Value).toArray w (cL fun v w'=>v=str R/\aF G K L w'):=by
 unfold aAY at hm
 split at hm
 ·rename_i h
  obtain ⟨h1,h2,h3⟩:=h
  cases hm
  obtain ⟨m,hm⟩:=hs.laid.1
  have hc:=Lib.countB_mul_le ⟨⟨o⟩⟩ (show 1<=o.length by omega) s.length ⟨⟨s⟩⟩ (Nat.le_refl _)
  have hc:Lib.countB ⟨⟨s⟩⟩ ⟨⟨o⟩⟩ * o.length<=s.length:=hc
  rw [h2,Nat.mul_one] at hc
  refine (Tryz.strings_ReplaceAll ⟨⟨s⟩⟩ ⟨⟨o⟩⟩ ⟨⟨n⟩⟩ m w h1 hm (show 1<=o.length by omega) (show s.length+Lib.countB ⟨⟨s⟩⟩ ⟨⟨o⟩⟩ * n.length<=_ by rw [h3];omega)).mono ?_
  rintro e w' ⟨rfl,hB⟩
  exact ⟨_,rfl,rfl,hs.gr hG (Gr.below hB)⟩
 ·cases hm
end
structure BR (w wx:World) (b:Nat) (xs:aL):Prop where
 lo:w.heap.size<=b
 bel:Below w.heap.size w wx
 cell:∀ (j:Nat) (x:UInt8),xs[j]?=some x->wx.cell? ⟨b,j,none⟩=some (.int .u8 (x.toNat:Int))
 fz:∀ j,j < xs.length->wx.frozen? ⟨b,j,none⟩=false
theorem BR.conv (w:World) (e:TypeId) (s:aL):BR w (Lib.bytesWorld w e ⟨⟨s⟩⟩) w.heap.size s:=by
 refine ⟨Nat.le_refl _,Lib.bytesWorld_below _ _ _,fun j x hj=>?_,fun j hj=>?_⟩
 ·have hlt:j < s.length:=(List.getElem?_eq_some_iff.1 hj).1
  rw [Lib.bytesWorld_cell w e ⟨⟨s⟩⟩ j hlt]
  show some (Value.int .u8 ((s.getD j 0).toNat:Int))=_
  rw [List.getD_eq_getElem?_getD,hj];rfl
 ·have hsz:s.length<=(Lib.bytesCells w e ⟨⟨s⟩⟩).size:=by
   unfold Lib.bytesCells
   rw [Array.size_append,Array.size_map]
   exact Nat.le_add_right _ _
  unfold World.frozen?
  rw [show (⟨w.heap.size,j,none⟩:Addr).block=w.heap.size from rfl,Lib.bytesWorld_at_new]
  simp;omega
theorem BR.put {w wx:World} {b:Nat} {xs:aL} (h:BR w wx b xs) {j:Nat} (y:UInt8) (hj:j < xs.length):BR w (wx.setCell ⟨b,j,none⟩ (.int .u8 (y.toNat:Int))) b (xs.set j y):=by
 refine ⟨h.lo,h.bel.setCell (p:=⟨b,j,none⟩) h.lo _,fun k x hk=>?_,fun k hk=>?_⟩
 ·by_cases e:j=k
  ·subst e
   rw [List.getElem?_set_self hj] at hk
   cases hk
   exact World.cell?_setCell_same _ _ _ (h.cell j _ (List.getElem?_eq_getElem hj))
  ·rw [List.getElem?_set_ne e] at hk
   rw [World.cell?_setCell_other _ _ _ _ (by intro e2;cases e2;exact e rfl)]
   exact h.cell k x hk
 ·rw [List.length_set] at hk
  rw [World.frozen?_setCell]
  exact h.fz k hk
section
variable {P:Program} {n:Nat} {ops:Array Oper} {rest:List Oper} {Q:lI} {f:Nat->Value} {w wx:World}
variable {d:Nat} {x y:Operand} {ty:TypeId} {pos:String} {af:Array Go.Edge} {b len cap:Nat} {xs:aL} {j:Int} {e:UInt8}
theorem R_ixBy {T E:TypeId} (hT:SLT P T E 1) (hx:ev f x=.slice (some ⟨b,0,none⟩) len cap) (hl:len=xs.length) (hy:ev f y=i64 j) (hj:ix xs j=some e):
  (execOp (ev f) ⟨some d,.indexAddr T x y,ty,pos,af,none⟩).run P wx=.ok (.value (.pointer (some ⟨b,j.toNat,none⟩))) wx:=by
 obtain ⟨h0,h1,_⟩:=aAO hj
 subst hl
 simp [execOp,hx,hy,aCQ (w:=wx) (ad:=⟨b,0,none⟩) (cap:=cap) hT rfl h0 h1]
theorem R_ldBy {T:TypeId} (hT:SC P T) (hr:BR w wx b xs) (hx:ev f x=.pointer (some ⟨b,j.toNat,none⟩)) (hj:ix xs j=some e):
  (execOp (ev f) ⟨some d,.load T x,ty,pos,af,none⟩).run P wx=.ok (.value (.int .u8 (e.toNat:Int))) wx:=by
 obtain ⟨h0,h1,h2⟩:=aAO hj
 simp only [execOp,hx,Sem.run_bind,aBL hT (hr.cell _ _ h2)];simp
theorem WO_stBy {T:TypeId} {z:UInt8} (hT:∀ w,(Go.sizeOf T).run P w=.ok 1 w) (hr:BR w wx b xs) (hx:ev f x=.pointer (some ⟨b,j.toNat,none⟩)) (hy:ev f y=.int .u8 (z.toNat:Int)) (hj:ix xs j=some e)
  (h:∀ w',BR w w' b (xs.set j.toNat z)->WO P n ops rest Q f w'):WO P n ops (⟨none,.store T x y,ty,pos,af,none⟩::rest) Q f wx:=by
 obtain ⟨h0,h1,h2⟩:=aAO hj
 refine WO_eff rfl (w':=_) ?_ (h _ (hr.put z h1))
 have hst:=run_storeCells_cells (P:=P) b j.toNat [Value.int .u8 (z.toNat:Int)] 0 wx (fun k hk=>by
  obtain rfl:k=0:=by simpa using hk
  show (wx.cell? ⟨b,j.toNat,none⟩).isSome=true
  rw [hr.cell _ _ h2];rfl) (fun k hk=>by
  obtain rfl:k=0:=by simpa using hk
  exact hr.fz _ h1) (fun v hv=>by simp at hv;subst hv;rfl)
 simp only [execOp,hx,hy,Instr.storeAt,Instr.sureAddr,storeVar,Sem.run_bind,Sem.run_pure,Result.andThen_ok,hT,Sem.run_ite]
 have hc:(Value.int .u8 (z.toNat:Int)).cells=[Value.int .u8 (z.toNat:Int)].toArray:=rfl
 rw [hc]
 simp only [Nat.add_zero] at hst
 simp [hst,World.setCells]
theorem R_cvBy {S T E:TypeId} (hS:P.underlying S=some (.slice E)) (hE:P.underlying E=some (.int .u8)) (hT:P.underlying T=some .string) (hr:BR w wx b xs) (hx:ev f x=.slice (some ⟨b,0,none⟩) len cap) (hl:len=xs.length):
  (execOp (ev f) ⟨some d,.convert S T x,ty,pos,af,none⟩).run P wx=.ok (.value (str xs)) wx:=by
 subst hl
 have:=run_convert_bytes_back wx S T E ⟨b,0,none⟩ cap xs hS hE hT (fun j hj=>by
  rw [mM,Nat.zero_add]
  exact hr.cell j _ (List.getElem?_eq_getElem hj))
 simp only [execOp,hx,Sem.run_bind,this]
 simp [str]
theorem WO_cvBy {S T E:TypeId} {s:aL} (hS:P.underlying S=some .string) (hT:P.underlying T=some (.slice E)) (hE:P.underlying E=some (.int .u8)) (hx:ev f x=str s)
  (h:∀ b c w',BR w w' b s->WO P n ops rest Q (upd f d (.slice (some ⟨b,0,none⟩) s.length c)) w'):WO P n ops (⟨some d,.convert S T x,ty,pos,af,none⟩::rest) Q f w:=by
 refine aFT rfl (w':=Lib.bytesWorld w E ⟨⟨s⟩⟩) (v:=.slice (some ⟨w.heap.size,0,none⟩) s.length (grownCap w s.length 0 E)) ?_ (h _ _ _ (BR.conv w E s))
 have hz:(⟨⟨s⟩⟩:ByteArray).size=s.length:=rfl
 have:=Lib.run_convert_string_bytes w S T E ⟨⟨s⟩⟩ hS hT hE
 rw [hz] at this
 simp only [execOp,hx,str,Sem.run_bind,this]
 simp
end
def swS (a b:UInt8) (xs:aL) (i:Int):Option ((aL × Int) ⊕ aL):=
 if (decide (i < (xs.length:Int))) then (ob (ix xs i) fun e=>if ((e.toNat:Int) == (a.toNat:Int)) then (some (.inl (xs.set i.toNat b,wr (i+1)))) else (some (.inl (xs,wr (i+1))))) else some (.inr xs)
theorem swS_loop (a b:UInt8) (s:aL) (hl:s.length < iK):loop (fun (q:(aL × Int))=>swS a b q.1 q.2) (s,0)=some (s.map fun x=>if x=a then b else x):=by
 have aux:∀ (r p:aL),(p++r).length < iK->loop (fun (q:(aL × Int))=>swS a b q.1 q.2) (p++r,(p.length:Int))=some (p++r.map fun x=>if x=a then b else x):=by
  intro r
  induction r with
  |nil=>
   intro p hp
   rw [List.append_nil,List.map_nil,List.append_nil]
   rw [bD]
   simp only [swS,show decide ((p.length:Int) < (p.length:Int))=false by simp,Bool.false_eq_true,if_false]
  |cons x r ih=>
   intro p hp
   unfold iK at hp
   rw [List.length_append,List.length_cons] at hp
   have hix:ix (p++x::r) (p.length:Int)=some x:=by
    unfold ix
    rw [if_pos (by omega),Int.toNat_natCast,List.getElem?_append_right (Nat.le_refl _),Nat.sub_self];rfl
   have hw:wr ((p.length:Int)+1)=((p++[if x=a then b else x]).length:Int):=by
    rw [List.length_append];unfold wr;simp only [List.length_cons,List.length_nil];omega
   have ih':=ih (p++[if x=a then b else x]) (by unfold iK;simp only [List.length_append,List.length_cons,List.length_nil];omega)
   rw [List.append_assoc,List.append_assoc] at ih'
   rw [bD,List.map_cons]
   have hst:swS a b (p++x::r) (p.length:Int)=some (.inl (p++([if x=a then b else x]++r),((p++[if x=a then b else x]).length:Int))):=by
    unfold swS
    rw [if_pos (by simp;omega),hix]
    show (if ((x.toNat:Int) == (a.toNat:Int))=true then _ else _)=_
    by_cases e:x=a
    ·subst e
     rw [if_pos (by simp),if_pos rfl,Int.toNat_natCast]
     rw [if_pos rfl] at hw
     rw [hw,List.set_append_right _ _ (Nat.le_refl _),Nat.sub_self]
     rfl
    ·have hne:¬ ((x.toNat:Int) == (a.toNat:Int))=true:=fun h=>e (UInt8.toNat_inj.1 (by have:=eq_of_beq h;omega))
     rw [if_neg hne,if_neg e]
     rw [if_neg e] at hw
     rw [hw];rfl
   simp only [hst]
   exact ih'
 have:=aux s [] (by simpa using hl)
 simpa using this
theorem lib_Swap {G:kH} {K:Hp} {L:List eW} {w:World} {s R:aL} {a b:UInt8} {va vb:Int} (hs:aF G K L w) (hG:G.lo=0) (hm:aOY s a b=some R) (ha:va=(a.toNat:Int):=by decide) (hb:vb=(b.toNat:Int):=by decide):
  Calls Tryz.prog 37 ([str s,Value.int .u8 va,Value.int .u8 vb]:List Value).toArray w (cL fun v w'=>v=str R/\aF G K L w'):=by
 subst ha hb
 unfold aOY at hm
 split at hm
 rotate_left
 ·cases hm
 rename_i hl
 have hR:=(zI hm).symm
 have hlp:=swS_loop a b s hl
 rw [←hR] at hlp
 refine aN Tryz.func37 rfl (by kernel_rfl) (by show (3:Nat)<=29;decide) ?_
 refine aH ?_
 refine bK ?_
 refine aC (dJ (v:=str ([]:aL)) rfl) ?_
 refine bP (aD ?_)
 refine aH ?_
 refine bK ?_
 refine aC (bC (v:=str s) rfl) ?_
 refine WO_cvBy Tryz.underlying9 Tryz.underlying126 Tryz.underlying5 rfl ?_
 intro q c w1 hr1
 refine aC (dJ (v:=zS (some ⟨q,0,none⟩) s.length c) rfl) ?_
 refine bP (aD ?_)
 refine aH ?_
 refine aH ?_
 refine bK ?_
 refine aC (dJ (v:=i64 0) rfl) ?_
 refine bP (aD ?_)
 refine aQ [7] (fun _ w'=>BR w w' q R) ?_ ?_
 ·rintro g w2 hr2
  have hlen:s.length=R.length:=by rw [hR,List.length_map]
  refine aD ?_
  refine aH ?_
  refine bK ?_
  refine aC (bC (v:=zS (some ⟨q,0,none⟩) s.length c) rfl) ?_
  refine aC (R_cvBy Tryz.underlying126 Tryz.underlying5 Tryz.underlying9 hr2 rfl hlen) ?_
  refine aC (dJ (v:=str R) rfl) ?_
  refine bP (aD ?_)
  exact aAP (xU Tryz.results37 rfl ⟨rfl,hs.gr hG (Gr.below hr2.bel)⟩)
 refine cD [1,2,7] hlp (fun xs i f w'=>f 8=i64 i/\xs.length=s.length/\BR w w' q xs) ?_ ?_
 ·exact ⟨rfl,rfl,hr1⟩
 ·rintro xs i x f w2 hm hr ⟨e8,hxl,hr2⟩
  unfold swS at hm
  refine aH ?_
  refine aH ?_
  refine bK ?_
  refine aC (bC (v:=i64 i) e8) ?_
  refine aC (bC (v:=zS (some ⟨q,0,none⟩) s.length c) rfl) ?_
  refine aC (aX (len:=s.length) aIk rfl) ?_
  refine aC (eC rfl rfl) ?_
  refine bP (aD ?_)
  rw [hxl] at hm
  rcases aI hm with ⟨c1,hm⟩|⟨c1,hm⟩
  ·refine aS c1 rfl ?_
   refine aU (aD ?_)
   refine aH ?_
   refine bJ ?_
   refine aH ?_
   refine bK ?_
   refine aC (bC (v:=zS (some ⟨q,0,none⟩) s.length c) rfl) ?_
   refine aC (bC (v:=i64 i) e8) ?_
   obtain ⟨e,q1,hm⟩:=aB hm
   refine aC (R_ixBy (j:=i) aIk rfl hxl.symm rfl q1) ?_
   refine aC (R_ldBy sc_5 hr2 rfl q1) ?_
   refine aC (bC (v:=Value.int .u8 (a.toNat:Int)) rfl) ?_
   refine aC (dN rfl rfl) ?_
   refine bP (aD ?_)
   rcases aI hm with ⟨c2,hm⟩|⟨c2,hm⟩
   ·refine aS c2 rfl ?_
    refine bK ?_
    refine aC (bC (v:=zS (some ⟨q,0,none⟩) s.length c) rfl) ?_
    refine aC (bC (v:=i64 i) e8) ?_
    refine aC (bC (v:=Value.int .u8 (b.toNat:Int)) rfl) ?_
    refine aC (R_ixBy (j:=i) aIk rfl hxl.symm rfl q1) ?_
    refine WO_stBy (z:=b) Tryz.sizeOf5 hr2 rfl rfl q1 ?_
    intro w3 hr3
    refine bP (eL (aD ?_))
    refine bK ?_
    refine aC (bC (v:=i64 i) e8) ?_
    refine aC (nI rfl rfl) ?_
    refine aC (dJ (v:=i64 (wr (i+1))) rfl) ?_
    refine bP (aD ?_)
    exact ⟨_,(zI hm).symm,gF,rfl,by rw [List.length_set];exact hxl,hr3⟩
   ·refine aP c2 rfl ?_
    refine aU (eL (aD ?_))
    refine bK ?_
    refine aC (bC (v:=i64 i) e8) ?_
    refine aC (nI rfl rfl) ?_
    refine aC (dJ (v:=i64 (wr (i+1))) rfl) ?_
    refine bP (aD ?_)
    exact ⟨_,(zI hm).symm,gF,rfl,hxl,hr2⟩
  ·refine aP c1 rfl ?_
   refine aON (aEy (aEy ?_))
   have hq:=hr _ (zI hm).symm
   subst hq
   refine aIR (aD ?_)
   exact ⟨gF,hr2⟩
end Gv
