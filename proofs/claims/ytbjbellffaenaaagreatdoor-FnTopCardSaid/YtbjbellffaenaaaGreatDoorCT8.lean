/- A part of the proof of this claim's last theorem. No condition. -/
import Derived.Test.YtbjbellffaenaaaGreatDoorCT4
import Derived.Deep.RegionHeld3
set_option linter.all false
set_option maxRecDepth 10000
open Option renaming some->s,none->J
open Bool renaming true->Ze,false->Zf
open Decidable renaming decide->F
open List renaming length->i
open Option renaming bind->j
open _root_ renaming Int->g,List->d,Option->z,cond->u
open Go.Proofs.Tryz
set_option maxHeartbeats 40000000
namespace Go.Proofs.YtbjbellffaenaaaGreatDoor
open Go.RowKit
variable {P:Program}{v:Value}
def sn(n:ab)(s0:g×(d ByteArray))(y2:bP)(s1:g):z (g⊕g):=
 u (F (s1<(i s0.2:g)))
 (j (az s0.2 s1) λy3=>
 u (tf y3 y2.aZ)
 (s (.inl (aJ (s1+1))))
 (s (.inr s1)))
 (s (.inr s1))
instance (n:ab)(s0:g×(d ByteArray))(y2:bP):bm (sn n s0 y2):=⟨λs1=>(.un::.be 0 0 0::.un::.ms 1::vi s0.1::vs y2.aZ::vi s1::(U 65 [])),λs1=>[s ⟨.of 27,3,[aT n]⟩,s ⟨.of 9,1,s0.2.map jQ⟩]⟩
def so(n:ab)(s0:g×(d ByteArray))(y1:bP)(s2:g):z (g⊕g):=
 u (F (s2<(i s0.2:g)))
 (j (az s0.2 s2) λy5=>
 u (tf y5 y1.ar)
 (s (.inl (aJ (s2+1))))
 (s (.inr s2)))
 (s (.inr s2))
instance (n:ab)(s0:g×(d ByteArray))(y1:bP):bm (so n s0 y1):=⟨λs2=>(.un::.be 0 0 0::.un::.ms 1::vi s0.1::vs y1.ar::vi s2::(U 65 [])),λs2=>[s ⟨.of 27,3,[aT n]⟩,s ⟨.of 9,1,s0.2.map jQ⟩]⟩
def j8(n:ab)(s0:g×(d ByteArray)):z ((g×(d ByteArray))⊕(d ByteArray)):=
 u (F (s0.1<(aJ (2*(i n.aC:g)))))
 (j (az n.aC (IntKind.i64.wrap (Int.tdiv s0.1 2))) λy1=>
 u (F ((Int.tmod s0.1 2)=1))
 (j (az n.aC (IntKind.i64.wrap (Int.tdiv s0.1 2))) λy2=>
 (aB (sn n s0 y2) NN 0).bind (λo1=>
 u (F (o1=(i s0.2:g)))
 (j (cf (iq 0 o1 (i s0.2))) λ_=>
 j (cf (bn (i (([]:d ByteArray):d ByteArray)+i ((da s0.2 0 o1):d ByteArray)) 16)) λ_=>
 j (cf (bn (i (((([]:d ByteArray):d ByteArray)++(da s0.2 0 o1)):d ByteArray)+i ([y2.aZ]:d ByteArray)) 16)) λ_=>
 j (cf (iq o1 (i s0.2:g) (i s0.2))) λ_=>
 j (cf (bn (i (((((([]:d ByteArray):d ByteArray)++(da s0.2 0 o1)):d ByteArray)++[y2.aZ]):d ByteArray)+i ((da s0.2 o1 (i s0.2:g)):d ByteArray)) 16)) λ_=>
 s (.inl ((aJ (s0.1+1)),((((((([]:d ByteArray):d ByteArray)++(da s0.2 0 o1)):d ByteArray)++[y2.aZ]):d ByteArray)++(da s0.2 o1 (i s0.2:g))))))
 (j (az s0.2 o1) λy4=>
 u (!decide (y4=y2.aZ))
 (j (cf (iq 0 o1 (i s0.2))) λ_=>
 j (cf (bn (i (([]:d ByteArray):d ByteArray)+i ((da s0.2 0 o1):d ByteArray)) 16)) λ_=>
 j (cf (bn (i (((([]:d ByteArray):d ByteArray)++(da s0.2 0 o1)):d ByteArray)+i ([y2.aZ]:d ByteArray)) 16)) λ_=>
 j (cf (iq o1 (i s0.2:g) (i s0.2))) λ_=>
 j (cf (bn (i (((((([]:d ByteArray):d ByteArray)++(da s0.2 0 o1)):d ByteArray)++[y2.aZ]):d ByteArray)+i ((da s0.2 o1 (i s0.2:g)):d ByteArray)) 16)) λ_=>
 s (.inl ((aJ (s0.1+1)),((((((([]:d ByteArray):d ByteArray)++(da s0.2 0 o1)):d ByteArray)++[y2.aZ]):d ByteArray)++(da s0.2 o1 (i s0.2:g))))))
 (s (.inl ((aJ (s0.1+1)),s0.2))))))
 ((aB (so n s0 y1) NN 0).bind (λo2=>
 u (F (o2=(i s0.2:g)))
 (j (cf (iq 0 o2 (i s0.2))) λ_=>
 j (cf (bn (i (([]:d ByteArray):d ByteArray)+i ((da s0.2 0 o2):d ByteArray)) 16)) λ_=>
 j (cf (bn (i (((([]:d ByteArray):d ByteArray)++(da s0.2 0 o2)):d ByteArray)+i ([y1.ar]:d ByteArray)) 16)) λ_=>
 j (cf (iq o2 (i s0.2:g) (i s0.2))) λ_=>
 j (cf (bn (i (((((([]:d ByteArray):d ByteArray)++(da s0.2 0 o2)):d ByteArray)++[y1.ar]):d ByteArray)+i ((da s0.2 o2 (i s0.2:g)):d ByteArray)) 16)) λ_=>
 s (.inl ((aJ (s0.1+1)),((((((([]:d ByteArray):d ByteArray)++(da s0.2 0 o2)):d ByteArray)++[y1.ar]):d ByteArray)++(da s0.2 o2 (i s0.2:g))))))
 (j (az s0.2 o2) λy6=>
 u (!decide (y6=y1.ar))
 (j (cf (iq 0 o2 (i s0.2))) λ_=>
 j (cf (bn (i (([]:d ByteArray):d ByteArray)+i ((da s0.2 0 o2):d ByteArray)) 16)) λ_=>
 j (cf (bn (i (((([]:d ByteArray):d ByteArray)++(da s0.2 0 o2)):d ByteArray)+i ([y1.ar]:d ByteArray)) 16)) λ_=>
 j (cf (iq o2 (i s0.2:g) (i s0.2))) λ_=>
 j (cf (bn (i (((((([]:d ByteArray):d ByteArray)++(da s0.2 0 o2)):d ByteArray)++[y1.ar]):d ByteArray)+i ((da s0.2 o2 (i s0.2:g)):d ByteArray)) 16)) λ_=>
 s (.inl ((aJ (s0.1+1)),((((((([]:d ByteArray):d ByteArray)++(da s0.2 0 o2)):d ByteArray)++[y1.ar]):d ByteArray)++(da s0.2 o2 (i s0.2:g))))))
 (s (.inl ((aJ (s0.1+1)),s0.2)))))))
 (s (.inr s0.2))
instance (n:ab):bm (j8 n):=⟨λs0=>(.un::.be 0 0 0::.un::.ms 1::vi s0.1::(U 67 [])),λs0=>[s ⟨.of 27,3,[aT n]⟩,s ⟨.of 9,1,s0.2.map jQ⟩]⟩
def dm(n:ab):z (d ByteArray):=
 (aB (j8 n) NN (0,([]:d ByteArray))).bind (λo0=>
 s o0)
instance (n:ab):CT prog (dm n):=⟨37,[.ag (aT n)],[],λr=>.ms 0,λr=>[s ⟨.of 9,1,r.map jQ⟩],cw (dm.eq_1 ..) func37 ntmps37 results37⟩
def jK(w:aw)(o:ay):z ByteArray:=
 u (F (o.state=2))
 (j (az o.aE o.aH) λy1=>
 j (az w.aa.aC y1.bq) λy2=>
 s y2.aZ)
 (s o.place)
instance (w:aw)(o:ay):CT prog (jK w o):=⟨119,[.ag (cL w),.ag (bx o)],[],λr=>vs r,λr=>[],cw (jK.eq_1 ..) func119 ntmps119 results119⟩
def uM(w:World):Type:={w':World // Up w w'}
instance (w:World):Nonempty (uM w):=⟨⟨w,Up.rfl' w⟩⟩
def uM.val{w:World}(x:uM w):World:=x.1
theorem uM.up{w:World}(x:uM w):Up w x.val:=x.2
theorem uM.cell{w:World}{b o:Nat}{v:Value}(h:w.cell? ⟨b,o,J⟩=s v):∀x:uM w,x.val.cell? ⟨b,o,J⟩=s v:=
 λx=>(x.2.cell (p:=⟨b,o,J⟩) (World.block_lt_of_cell? w ⟨b,o,J⟩ h)).trans h
theorem gl{w w':World}{b o:Nat}(h:w.cell? ⟨b,o,J⟩=s v)(hu:Up w w'):w'.cell? ⟨b,o,J⟩=s v:=uM.cell h ⟨w',hu⟩
theorem uM.rd{α:Type}[eZ α]{w:World}{A:z Addr}{xs:d α}(h:Rd w w.heap.size A xs)(x:uM w):Rd x.val x.val.heap.size A xs:=h.up x.2
theorem uM.call{f:FuncId}{args:Array Value}{w:World}{x:uM w}(h:Calls P f args x.val λe w'=>e=.returned v/\Up x.val w'):
 Calls P f args x.val λe w''=>e=.returned v/\∃y:uM w,w''=y.val:=
 h.mono λ_ v2 ⟨he,hu⟩=>⟨he,⟨v2,Up.step hu x.2⟩,rfl⟩
theorem xS{id:Nat}{Q:Exit->Act->World->Prop}{a:Act}{w:World}{l:d Oper}(hm:P.follows .mixedOrders=Ze)(hB:Region.lexB .any l.toArray=Ze)
 (h:wpQuiet P l.toArray (λw'=>∃x:uM w,w'=x.val) (λa'=>∀w',Up w w'->Q .normal a' w') l a):(Code.region id l.toArray Ze).wp P Q a w:=by
 refine wp_region_quiet (C:=λw'=>∃x:uM w,w'=x.val) hm hB ⟨⟨_,Up.sZ (Up.rfl' w)⟩,rfl⟩ ?_
 have e:(λa'=>∀w',(∃x:uM w,w'=x.val)->Q .normal a' w')=(λa'=>∀w',Up w w'->Q .normal a' w'):=by
  funext a'
  refine propext ⟨λh w' hu=>h w' ⟨⟨w',hu⟩,rfl⟩,λh w' hx=>?_⟩
  obtain⟨x,rfl⟩:=hx;exact h _ x.2
 rw[e]
 simpa using h
