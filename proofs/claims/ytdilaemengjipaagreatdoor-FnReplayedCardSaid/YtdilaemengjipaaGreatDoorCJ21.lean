/- A part of the proof of the statement in the last file of this claim: texts on the language of the program and on its functions. No condition. -/
import Derived.Test.YtdilaemengjipaaGreatDoorCJ4
import Derived.Test.YtdilaemengjipaaGreatDoorCJ9
import Derived.Test.YtdilaemengjipaaGreatDoorCJ12
import Derived.Test.YtdilaemengjipaaGreatDoorCJ14
import Derived.Test.YtdilaemengjipaaGreatDoorCJ7
import Derived.Test.YtdilaemengjipaaGreatDoorCJ10
import Derived.Laws.ResultCell
import Derived.Test.YtdilaemengjipaaGreatDoorProg
import Derived.Laws.BytesArg
import Derived.Test.YtdilaemengjipaaGreatDoorCJ1
set_option linter.unusedVariables false
set_option linter.unusedSimpArgs false
set_option linter.unusedSectionVars false
open Go.Value renaming int->Y1
open Go.IntKind renaming i64->Y2
open Go renaming undef->Y3
open Option renaming some->YW,none->YX
open Bool renaming true->YY,false->YZ
open Decidable renaming decide->Y0
open Go.Proofs.Tryz
set_option maxHeartbeats 40000000
open _root_.ByteArray renaming ext->WX,data_append->XW,size->W7,data_extract->X2
open List renaming replicate->V8,getElem?_eq_some_iff->VU,extract_eq_take_drop->Yb
open Option renaming bind_some->VT
open _root_.Int renaming toNat_natCast->WN,toNat->Wm
open Bool renaming and_false->X6,false_and->Yc
open Option.some renaming inj->VX
open _root_.Array renaming getElem?_eq_some_iff->We
open Nat renaming le_refl->VY,ne_of_lt->Xx
namespace Go.Proofs.YtdilaemengjipaaGreatDoor
set_option maxRecDepth 10000
open Go.RowKit Go.Sort
variable {d i:Nat}{l:List UInt8}{n:Int}
theorem gG(a b:List UInt8):cE a++cE b=cE (a++b):=by
 apply WX;rw[XW];simp[cE]
theorem yW{a b:ByteArray}(h:a.size+b.size<=sy):dC a b=true:=by
 unfold dC;unfold sy at h
 exact Ya Yn
theorem Qq(k:Nat)(l:List UInt8):(48:UInt8)::(V8 k 48++l)=V8 (k+1) 48++l:=by rw[List.replicate_succ];rfl
theorem gB(h:qp n):(Lib.itoa n).length<=21:=Lib.itoa_length_le n h.1 h.2
theorem AR(h:qp n)(hd:d<=20):lI n (d:Int)=YW (cE (qd n d)):=by
 have hl:=gB h;unfold lI;have hF:bN n=YW (cE (Lib.itoa n)):=by unfold bN;rw[if_pos h]
 rw[hF,VT];have key:∀(k N c:Nat),k=d-((Lib.itoa n).length+c)->k<N->aE (kV (d:Int)) N (cE (V8 c 48++Lib.itoa n))=YW (cE (V8 (c+k) 48++Lib.itoa n)):=by
  intro k
  induction k with
  |zero=>
   intro N c hk hN
   cases N with
   |zero=>omega
   |succ N=>
    simp only[aE,kV,bD,List.length_append,List.length_replicate];rw[Yg Yn];rfl
  |succ k ih=>
   intro N c hk hN
   cases N with
   |zero=>omega
   |succ N=>
    have e1:(⟨#[48]⟩:ByteArray)++cE (V8 c 48++Lib.itoa n)=cE (V8 (c+1) 48++Lib.itoa n):=by
     rw[<-Qq];exact gG [48] _
    simp only[aE,kV];rw[e1,yW (by rw[bD];simp[W7];unfold sy;omega),bD]
    rw[Ya Yw];have:=ih N (c+1) Yn Yn;rw[show c+1+k=c+(k+1)by omega]at this
    exact this
 have:=key (d-(Lib.itoa n).length) NN 0 Yn Ys;simp only[List.replicate_zero,List.nil_append,Nat.zero_add]at this
 rw[this];rfl
theorem Fa(h:qp n)(hd:d<=20):mn n (d:Int)=YW (cE (qd n d)):=by
 unfold mn;rw[if_pos ⟨h,Yn,Yn⟩];rfl
theorem yK(h:qp n)(hd:d<=20):(qd n d).length<=21:=by
 have:=gB h;unfold qd;simp;omega
theorem Ap{y:Int}(h:0<=y/\y<=255):IntKind.i64.wrap y=y:=aR ⟨Yn,Yn⟩
theorem Tf:@qH=@j8:=by
 have e:@pS=@dS:=by
  funext s s0
  unfold pS dS
  cases hd:Y0 (s0.2<(s.size:Int))
  ·rfl
  simp only[Yj]
  cases hy:uC s s0.2 with
  |none=>rfl
  |some y=>
   have hw:=Bz hy;simp only[VT,Ap hw,cN]
   by_cases h1:y<48
   ·rw[Ya h1,Yg (show ¬48<=y by omega)];rfl
   ·rw[Yg h1,Ya (show 48<=y by omega)]
    by_cases h2:57<y
    ·rw[Ya h2,Yg (show ¬y<=57 by omega)];rfl
    ·rw[Yg h2,Ya (show y<=57 by omega)];rfl
 funext s
 unfold qH j8;rw[e]
theorem E4{s:ByteArray}(h:s.size<NN):∃m,j8 s=YW m:=by
 have ht:∃o,aE (dS s) NN (0,0)=YW o:=by
  refine vF (λk s0=>∃i:Nat,i+k=s.size/\s0.2=(i:Int)) ?_ NN s.size (0,0) ⟨0,Yn,rfl⟩ h
  rintro k ⟨m,x⟩ ⟨i,hi,hx⟩;simp only at hx
  subst hx;unfold dS
  by_cases bX:i<s.size
  ·obtain⟨y,hy⟩:=zE bX
   have hw:=Bz hy;simp only[hy,VT,Ap hw,cN,Ya (show(i:Int)<(s.size:Int)by omega),Yj]
   cases(Y0 (48<=y)&&Y0 (y<=57))
   ·exact⟨_,rfl,λs' e=>by cases e⟩
   ·refine⟨_,rfl,λs' e=>?_⟩
    cases e
    exact⟨k-1,Yn,i+1,Yn,bG bX (by unfold NN at h;omega)⟩
  ·simp only[Yg (show ¬(i:Int)<(s.size:Int)by omega),Yk]
   exact⟨_,rfl,λs' e=>by cases e⟩
 obtain⟨o,ho⟩:=ht;unfold j8;rw[ho]
 cases o with
 |inl a=>simp only[VT,bh];cases Y0 (s=⟨#[]⟩)<;>exact⟨_,rfl⟩
 |inr r=>exact⟨_,rfl⟩
theorem IH{c:UInt8}(h:l[i]?=YW c):uC (cE l) (i:Int)=YW (c.toNat:Int):=by
 have bX:=(VU.1 h).1;unfold uC;rw[if_pos ⟨Yn,by rw[bD];omega⟩]
 unfold zu;have hb:(cE l)[i]?=YW c:=by
  have hs:i<(cE l).size:=by rw[bD];exact bX
  rw[getElem?_pos (cE l) i hs,<-Oo l i hs,h]
 rw[WN,hb];rfl
theorem Uv{c:UInt8}(h:l[i]?=YW c):He (cE l) (i:Int) ((i+1:Nat):Int)=cE [c]:=by
 unfold He;apply WX;rw[X2];simp only[cE,WN];apply Array.toList_inj.1;rw[Array.toList_extract];simp only[Yb];have bX:=(VU.1 h).1;rw[show i+1-i=1 by omega]
 apply List.ext_getElem?;intro n;rw[List.getElem?_take]
 cases n with
 |zero=>simp[h]
 |succ n=>simp
theorem Ax(hl:l.length<=100000):pF (cE l)=YW (cE ((nh l).getD []),(nh l).isSome):=by
 have key:∀(k N i:Nat) (acc:List UInt8),i+k=l.length->k<N->nh (l.take i)=YW acc->acc.length<=21*i->
  aE (mQ (cE l)) N (cE acc,(i:Int))=YW (match nh l with|some a=>.inl (cE a) |none=>.inr (⟨#[]⟩,YZ)):=by
  intro k
  induction k with
  |zero=>
   intro N i acc hi hN ha VO
   cases N with
   |zero=>omega
   |succ N=>
    obtain rfl:i=l.length:=Yn;rw[List.take_length]at ha
    simp only[aE,mQ,bD];rw[Yg Yn,ha];rfl
  |succ k ih=>
   intro N i acc hi hN ha VO
   cases N with
   |zero=>omega
   |succ N=>
    have bX:i<l.length:=Yn;obtain⟨c,hc⟩:∃c,l[i]?=YW c:=⟨_,List.getElem?_eq_getElem bX⟩;have uo:=c.toNat_lt;have Po:nh (l.take (i+1))=match YW acc,Aw c with
     |some a,YW b=>YW (a++b)
     |_,_=>none:=by
     rw[List.take_add_one,hc,show(YW c).toList=[c]from rfl,EG,ha]<;>rfl
    have hw:IntKind.i64.wrap (c.toNat:Int)=(c.toNat:Int):=Ap ⟨Yn,Yn⟩;have h1:aM ((i:Int)+1)=((i+1:Nat):Int):=bG bX Yn;simp only[aE,mQ,jn,bD,IH hc,hw,cN,h1,Uv hc,VT];rw[Ya (show(i:Int)<(l.length:Int)by omega)]
    by_cases Pg:48<=c.toNat/\c.toNat<=57
    ·have hd:Aw c=YW [c]:=by unfold Aw;rw[if_pos Pg]
     rw[hd]at Po
     rw[Ya (show(48:Int)<=(c.toNat:Int)by omega),Ya (show(c.toNat:Int)<=57 by omega),yW (by rw[bD,bD];simp;unfold sy;omega),ku (show fJ (i:Int) ((i+1:Nat):Int) l.length=YY by unfold fJ;exact Ya Yn),gG]
     exact ih N (i+1) (acc++[c]) Yn Yn Po Yw
    ·by_cases QS:65<=c.toNat/\c.toNat<=90
     ·have hd:Aw c=YW (Lib.itoa ((c.toNat-55:Nat):Int)):=by unfold Aw;rw[if_neg Pg,if_pos QS]
      have hdl:=F0 hd;rw[hd]at Po
      have e1:(Y0 ((48:Int)<=(c.toNat:Int))&&Y0 ((c.toNat:Int)<=57))=false:=by
       rw[Yg (show ¬(c.toNat:Int)<=57 by omega),X6]
      have e2:aM (aM ((c.toNat:Int)-65)+10)=((c.toNat-55:Nat):Int):=by
       rw[aR (n:=(c.toNat:Int)-65) ⟨Yn,Yn⟩,aR (n:=(c.toNat:Int)-65+10) ⟨Yn,Yn⟩];omega
      have e3:bN ((c.toNat-55:Nat):Int)=YW (cE (Lib.itoa ((c.toNat-55:Nat):Int))):=by
       unfold bN;rw[if_pos ⟨Yn,Yn⟩]
      rw[e1,Ya (show(65:Int)<=(c.toNat:Int)by omega),Ya (show(c.toNat:Int)<=90 by omega),e2,e3]
      simp only[Bool.and_true,Yk,Yj,VT];rw[yW (by rw[bD,bD];unfold sy;omega),gG]
      exact ih N (i+1) _ Yn Yn Po Yw
     ·have hd:Aw c=none:=by unfold Aw;rw[if_neg Pg,if_neg QS]
      have hn:=EF hc hd;have e1:(Y0 ((48:Int)<=(c.toNat:Int))&&Y0 ((c.toNat:Int)<=57))=false:=by
       by_cases h:48<=c.toNat
       ·rw[Yg (show ¬(c.toNat:Int)<=57 by omega),X6]
       ·rw[Yg (show ¬(48:Int)<=(c.toNat:Int)by omega),Yc]
      have e2:(Y0 ((65:Int)<=(c.toNat:Int))&&Y0 ((c.toNat:Int)<=90))=false:=by
       by_cases h:65<=c.toNat
       ·rw[Yg (show ¬(c.toNat:Int)<=90 by omega),X6]
       ·rw[Yg (show ¬(65:Int)<=(c.toNat:Int)by omega),Yc]
      rw[e1,e2,hn];rfl
 have:=key l.length NN 0 [] Yn Ys (by simp[nh]) Yq
 unfold pF;rw[show(⟨#[]⟩:ByteArray)=cE []from rfl,show(0:Int)=((0:Nat):Int)from rfl,this]
 cases nh l<;>rfl
theorem OY(hl:l.length<=100000):nZ (cE l)=YW (cE ((nh l).getD []),(nh l).isSome):=by
 unfold nZ;rw[if_pos YK];rfl
end Go.Proofs.YtdilaemengjipaaGreatDoor
namespace Go.Proofs.YtdilaemengjipaaGreatDoor
set_option maxRecDepth 10000
open Go.RowKit
variable {b i j:Nat}{w:World}{x y z:Value}
def bL(a:ba):Option ByteArray:=
 (bT a).bind λy1=>
 cond (!y1)
 (YW (⟨#[]⟩))
 (cond (Y0 (a.kind=1))
 ((gq a.aJ).bind λy2=>
 (cr (dC (⟨#[116,97,107,101,32]⟩) y2)).bind λ_=>
 YW (⟨#[116,97,107,101,32]⟩++y2))
 (cond (Y0 (a.kind=2))
 ((cz a.order).bind λy3=>
 (cr (dC (⟨#[112,97,121,32]⟩) y3)).bind λ_=>
 (cr (dC (⟨#[112,97,121,32]⟩++y3) (⟨#[32]⟩))).bind λ_=>
 (cz a.bC).bind λy4=>
 (cr (dC ((⟨#[112,97,121,32]⟩++y3)++⟨#[32]⟩) y4)).bind λ_=>
 YW (((⟨#[112,97,121,32]⟩++y3)++⟨#[32]⟩)++y4))
 (cond (Y0 (a.kind=3))
 ((cz a.bI).bind λy5=>
 (cr (dC (⟨#[114,117,110,32]⟩) y5)).bind λ_=>
 YW (⟨#[114,117,110,32]⟩++y5))
 (cond (Y0 (a.kind=4))
 ((nQ a.bk).bind λy6=>
 (cr (dC (⟨#[115,104,117,116,32]⟩) y6)).bind λ_=>
 YW (⟨#[115,104,117,116,32]⟩++y6))
 (cond (Y0 (a.kind=5))
 (YW (⟨#[114,101,116,114,121]⟩))
 ((cz a.order).bind λy7=>
 (cr (dC (⟨#[114,101,102,117,110,100,32]⟩) y7)).bind λ_=>
 YW (⟨#[114,101,102,117,110,100,32]⟩++y7)))))))
instance (a:ba):CT prog (bL a):=⟨11,[.ag (cX a)],[],λr=>vs r,λr=>[],cw (bL.eq_1 ..) func11 ntmps11 results11⟩
theorem Of{a b c:List UInt8}(hi:a.length=i)(hj:j=i+b.length):He (cE (a++b++c)) (i:Int) (j:Int)=cE b:=by
 subst hi hj;unfold He;apply WX;rw[X2];simp only[cE,WN];apply Array.toList_inj.1;rw[Array.toList_extract];simp[Yb]
def BH:bl:=⟨0,0,⟨#[]⟩⟩
def jG(s:ByteArray):Option (bl×Bool):=
 if s.size<=100000000 then if s.size=15 then match Lib.atoiAll (s.extract 0 1).data.toList,Lib.atoiAll (s.extract 1 10).data.toList with
  |.ok a,.ok b=>(dE ⟨a,b,s.extract 10 13⟩).bind λt=>YW (if t=s then(⟨a,b,s.extract 10 13⟩,YY)else(BH,YZ))
  |_,_=>YW (BH,YZ)
 else YW (BH,YZ)else YX
theorem Zcu(a b:Int)(t:ByteArray):∀(i:Nat) (p:PV),[PV.ag (mC ⟨a,b,t⟩)][i]?=YW p->∃x,(#[.agg #[Y1 Y2 a,Y1 Y2 b,.string t]]:Array Value)[i]?=YW x/\dG w (E1 (λb=>b<w.heap.size) (λ_=>YX) 0) p x:=by
 intro i p hp
 match i,hp with
 |0,hp=>
  obtain rfl:=VX hp;refine⟨_,rfl,.ag _ _ rfl (λj x KS=>?_) λj p x hp KS=>?_⟩
  ·match j,KS with
   |0,h|1,h|2,h=>obtain rfl:=VX h;rfl
   |j+3,h=>simp at h
  ·match j,hp,KS with
   |0,hp,D3|1,hp,D3|2,hp,D3=>obtain rfl:=VX D3;obtain rfl:=VX hp;exact .c (.v _ rfl)
   |j+3,hp,_=>simp[mC]at hp
 |n+1,hp=>simp at hp
theorem CG{a b:Int}{t z:ByteArray}(h:dE ⟨a,b,t⟩=YW z)(w:World)(ht:TabF w):Calls prog 97 #[.agg #[Y1 Y2 a,Y1 Y2 b,.string t]] w λe w'=>e=.returned (.string z)/\Up w w':=by
 have c:=CT.ok (P:=prog) h;simp only[CT.f,CT.args,CT.m0,CT.res,CT.mem]at c
 exact fa.val c (tab_of_F ht) rfl (Zcu a b t)
def Bx(b:Nat)(w:World)(x y z:Value):Prop:=w.heap[b]?=YW (.cells #[x,y,z] 42)
theorem Bx.c(h:Bx b w x y z):w.cell? ⟨b,0,YX⟩=YW x/\w.cell? ⟨b,1,YX⟩=YW y/\w.cell? ⟨b,2,YX⟩=YW z/\w.frozen? ⟨b,0,YX⟩=YZ/\w.frozen? ⟨b,1,YX⟩=YZ/\w.frozen? ⟨b,2,YX⟩=false:=by
 unfold Bx at h
 simp[World.cell?,World.frozen?,h]
theorem Bx.up{w w':World}(h:Bx b w x y z)(hu:Up w w'):Bx b w' x y z:=(hu.block b (We.1 h).1).trans h
theorem Bx.new(w:World)(x y z:Value):Bx w.heap.size (w.alloc (.cells #[x,y,z] 42)) x y z:=Array.getElem?_push_size
theorem Bx.xv(h:Bx b w x y z)(o:Obj):Bx b (w.alloc o) x y z:=by
 have hb:=(We.1 h).1;unfold Bx at *
 rw[<-h];exact Array.getElem?_push_lt hb |>.trans (Array.getElem?_eq_getElem hb).symm
theorem Bx.lt(h:Bx b w x y z):b<w.heap.size:=(We.1 h).1
theorem Dl(s:ByteArray)(w:World)(hs:¬s.size=15)(hm:s.size<=100000000):Calls prog 191 #[.string s] w λe w'=>e=.returned (.tuple #[.agg #[Y1 Y2 0,Y1 Y2 0,.string ⟨#[]⟩],.bool YZ])/\Up w w':=by
 have CR:¬(s.size:Int)=15:=Yn
 go_enter func191,ntmps191
 go_wp2
 (try simp only[Exit.inBlock,Exit.then])
 refine bodyPost_ret (v:=.tuple #[.agg #[Y1 Y2 0,Y1 Y2 0,.string ⟨#[]⟩],.bool YZ]) ?_ rfl ?_
 ·rw[results_cell_tmp rfl]
  go_simp
 ·exact⟨rfl,by(repeat(first|exact Up.rfl' _|(refine Up.al _ ?_) |(refine Up.dr _ ?_) |(refine Up.rR ?_) |(refine Up.sc ?_ Yt _) |(refine Up.step Yz ?_)))⟩
theorem zA{s:ByteArray}(hs:s.size=15):(s.extract i j).size<=15:=by rw[ByteArray.size_extract];omega
theorem Bh(s:ByteArray)(w:World)(ht:TabF w)(hs:s.size=15)(h1:∀v,Lib.atoiAll (s.extract 0 1).data.toList≠.ok v):Calls prog 191 #[.string s] w λe w'=>e=.returned (.tuple #[.agg #[Y1 Y2 0,Y1 Y2 0,.string ⟨#[]⟩],.bool YZ])/\Up w w':=by
 have hz:=zA (i:=0) (j:=1) hs;have ER:=zA (i:=1) (j:=10) hs;have hA:=λw1 (hu:Up w w1)=>xW (s.extract 0 1) Yn h1 w1 (uM ht hu)
 have CR:(s.size:Int)=15:=Yn
 by_cases h2:∃v,Lib.atoiAll (s.extract 1 10).data.toList=.ok v
 ·obtain⟨v,h2⟩:=h2
  have hB:=λw1=>tE (s.extract 1 10) Yn h2 w1
  clear h1 h2 hz ER
  go_enter func191,ntmps191
  go_wp2_with (first
   |(go_at_call 192;with_reducible (refine(hA _ Yo).mono ?_);rintro e w1 ⟨n,t,p,rfl,uW⟩;have B1:=(Bx.new w _ _ _).up uW)
   |(go_at_call 192;with_reducible (refine(hB _).mono ?_);rintro e w2 ⟨rfl,xM⟩;have B2:=B1.up xM;obtain⟨d0,d1,d2,e0,e1,e2⟩:=B2.c;have z1:=B2.lt;have z2:=Xx z1))
  (try simp only[Exit.inBlock,Exit.then])
  refine bodyPost_ret (v:=.tuple #[.agg #[Y1 Y2 0,Y1 Y2 0,.string ⟨#[]⟩],.bool YZ]) ?_ rfl ?_
  ·rw[results_cell_tmp rfl]
   go_simp
  ·exact⟨rfl,by(repeat(first|exact Up.rfl' _|(refine Up.al _ ?_) |(refine Up.dr _ ?_) |(refine Up.rR ?_) |(refine Up.sc ?_ Yt _) |(refine Up.step Yz ?_)))⟩
 ·have hB:=λw1 (hu:Up w w1)=>xW (s.extract 1 10) Yn (λv e=>h2 ⟨v,e⟩) w1 (uM ht hu)
  clear h1 h2 hz ER
  go_enter func191,ntmps191
  go_wp2_with (first
   |(go_at_call 192;with_reducible (refine(hA _ Yo).mono ?_);rintro e w1 ⟨n,t,p,rfl,uW⟩;have B1:=(Bx.new w _ _ _).up uW)
   |(go_at_call 192;with_reducible (refine(hB _ Yo).mono ?_);rintro e w2 ⟨n2,t2,p2,rfl,xM⟩;have B2:=B1.up xM;obtain⟨d0,d1,d2,e0,e1,e2⟩:=B2.c;have z1:=B2.lt;have z2:=Xx z1))
  (try simp only[Exit.inBlock,Exit.then])
  refine bodyPost_ret (v:=.tuple #[.agg #[Y1 Y2 0,Y1 Y2 0,.string ⟨#[]⟩],.bool YZ]) ?_ rfl ?_
  ·rw[results_cell_tmp rfl]
   go_simp
  ·exact⟨rfl,by(repeat(first|exact Up.rfl' _|(refine Up.al _ ?_) |(refine Up.dr _ ?_) |(refine Up.rR ?_) |(refine Up.sc ?_ Yt _) |(refine Up.step Yz ?_)))⟩
theorem Bi(s:ByteArray)(w:World)(ht:TabF w)(hs:s.size=15){a:Int}(h1:Lib.atoiAll (s.extract 0 1).data.toList=.ok a)(h2:∀v,Lib.atoiAll (s.extract 1 10).data.toList≠.ok v):Calls prog 191 #[.string s] w λe w'=>e=.returned (.tuple #[.agg #[Y1 Y2 0,Y1 Y2 0,.string ⟨#[]⟩],.bool YZ])/\Up w w':=by
 have hz:=zA (i:=0) (j:=1) hs;have ER:=zA (i:=1) (j:=10) hs;have hA:=λw1=>tE (s.extract 0 1) Yn h1 w1
 have hB:=λw1 (hu:Up w w1)=>xW (s.extract 1 10) Yn h2 w1 (uM ht hu)
 have CR:(s.size:Int)=15:=Yn;clear h1 h2 hz ER
 go_enter func191,ntmps191
 go_wp2_with (first
  |(go_at_call 192;with_reducible (refine(hA _).mono ?_);rintro e w1 ⟨rfl,uW⟩;have B1:=(Bx.new w _ _ _).up uW)
  |(go_at_call 192;with_reducible (refine(hB _ Yo).mono ?_);rintro e w2 ⟨n2,t2,p2,rfl,xM⟩;have B2:=B1.up xM;obtain⟨d0,d1,d2,e0,e1,e2⟩:=B2.c;have z1:=B2.lt;have z2:=Xx z1))
 (try simp only[Exit.inBlock,Exit.then])
 refine bodyPost_ret (v:=.tuple #[.agg #[Y1 Y2 0,Y1 Y2 0,.string ⟨#[]⟩],.bool YZ]) ?_ rfl ?_
 ·rw[results_cell_tmp rfl]
  go_simp
 ·exact⟨rfl,by(repeat(first|exact Up.rfl' _|(refine Up.al _ ?_) |(refine Up.dr _ ?_) |(refine Up.rR ?_) |(refine Up.sc ?_ Yt _) |(refine Up.step Yz ?_)))⟩
theorem Dk(s:ByteArray)(w:World)(ht:TabF w)(hs:s.size=15){a b:Int}(h1:Lib.atoiAll (s.extract 0 1).data.toList=.ok a)(h2:Lib.atoiAll (s.extract 1 10).data.toList=.ok b){t:ByteArray}(hF:dE ⟨a,b,s.extract 10 13⟩=YW t):Calls prog 191 #[.string s] w λe w'=>e=.returned (if t=s then .tuple #[.agg #[Y1 Y2 a,Y1 Y2 b,.string (s.extract 10 13)],.bool YY]else .tuple #[.agg #[Y1 Y2 0,Y1 Y2 0,.string ⟨#[]⟩],.bool YZ])/\Up w w':=by
 have hz:=zA (i:=0) (j:=1) hs;have ER:=zA (i:=1) (j:=10) hs;have hA:=λw1=>tE (s.extract 0 1) Yn h1 w1
 have hB:=λw1=>tE (s.extract 1 10) Yn h2 w1
 have hC:=λw1 (hu:Up w w1)=>CG hF w1 (uM ht hu)
 have CR:(s.size:Int)=15:=Yn;clear hF h1 h2 hz ER
 by_cases ce:t=s
 ·rw[if_pos ce]
  rw[ce]at hC
  clear ce
  go_enter func191,ntmps191
  go_wp2_with (first
   |(go_at_call 192;with_reducible (refine(hA _).mono ?_);rintro e w1 ⟨rfl,uW⟩;have B1:=(Bx.new w _ _ _).up uW)
   |(go_at_call 192;with_reducible (refine(hB _).mono ?_);rintro e w2 ⟨rfl,xM⟩;have B2:=B1.up xM;obtain⟨d0,d1,d2,e0,e1,e2⟩:=B2.c;have z1:=B2.lt;have z2:=Xx z1)
   |(go_at_call 97;with_reducible (refine(hC _ Yo).mono ?_);rintro e w3 ⟨rfl,UP⟩;have B3:=(B2.xv _).up UP;obtain⟨d0,d1,d2,e0,e1,e2⟩:=B3.c;have B4:=(Bx.new w2 _ _ _).up UP;obtain⟨g0,g1,g2,-,-,-⟩:=B4.c))
  (try simp only[Exit.inBlock,Exit.then])
  refine bodyPost_ret (v:=.tuple #[.agg #[Y1 Y2 a,Y1 Y2 b,.string (s.extract 10 13)],.bool YY]) ?_ rfl ?_
  ·rw[results_cell_tmp rfl]
   go_simp
  ·exact⟨rfl,by(repeat(first|exact Up.rfl' _|(refine Up.al _ ?_) |(refine Up.dr _ ?_) |(refine Up.rR ?_) |(refine Up.sc ?_ Yt _) |(refine Up.step Yz ?_)))⟩
 ·rw[if_neg ce]
  have hq:=Rx ce;clear ce
  go_enter func191,ntmps191
  go_wp2_with (first
   |(go_at_call 192;with_reducible (refine(hA _).mono ?_);rintro e w1 ⟨rfl,uW⟩;have B1:=(Bx.new w _ _ _).up uW)
   |(go_at_call 192;with_reducible (refine(hB _).mono ?_);rintro e w2 ⟨rfl,xM⟩;have B2:=B1.up xM;obtain⟨d0,d1,d2,e0,e1,e2⟩:=B2.c;have z1:=B2.lt;have z2:=Xx z1)
   |(go_at_call 97;with_reducible (refine(hC _ Yo).mono ?_);rintro e w3 ⟨rfl,UP⟩;have B3:=(B2.xv _).up UP;obtain⟨d0,d1,d2,e0,e1,e2⟩:=B3.c;have B4:=(Bx.new w2 _ _ _).up UP;obtain⟨g0,g1,g2,-,-,-⟩:=B4.c))
  (try simp only[Exit.inBlock,Exit.then])
  refine bodyPost_ret (v:=.tuple #[.agg #[Y1 Y2 0,Y1 Y2 0,.string ⟨#[]⟩],.bool YZ]) ?_ rfl ?_
  ·rw[results_cell_tmp rfl]
   go_simp
  ·exact⟨rfl,by(repeat(first|exact Up.rfl' _|(refine Up.al _ ?_) |(refine Up.dr _ ?_) |(refine Up.rR ?_) |(refine Up.sc ?_ Yt _) |(refine Up.step Yz ?_)))⟩
theorem ZhH{E:Env}(r:bl×Bool):dG w E (.tu [.ag (mC r.1),vb r.2]) (.tuple #[.agg #[Y1 Y2 r.1.aw,Y1 Y2 r.1.bO,.string r.1.aY],.bool r.2]):=by
 refine .tu _ _ rfl λj p x hp hx=>?_
 match j,hp,hx with
 |0,hp,hx=>
  obtain rfl:=VX hp;obtain rfl:=VX hx;refine .ag _ _ rfl (λj x KS=>?_) λj p x hp KS=>?_
  ·match j,KS with
   |0,h|1,h|2,h=>obtain rfl:=VX h;rfl
   |j+3,h=>simp at h
  ·match j,hp,KS with
   |0,hp,D3|1,hp,D3|2,hp,D3=>obtain rfl:=VX D3;obtain rfl:=VX hp;exact .c (.v _ rfl)
   |j+3,hp,_=>simp[mC]at hp
 |1,hp,hx=>
  obtain rfl:=VX hp;obtain rfl:=VX hx;exact .c (.v _ rfl)
 |j+2,hp,hx=>simp at hx
theorem xt(s:ByteArray){r:bl×Bool}(H:jG s=YW r):fa prog 191 [Go.Proofs.YtdilaemengjipaaGreatDoor.vs s] [] (.tu [.ag (mC r.1),vb r.2]) []:=by
 refine sZ (λw E=>ZhH r) λS β w vs uV ht hl ha=>?_
 obtain⟨x,hx,hr1⟩:=ha 0 _ rfl;obtain rfl:=ar1 hl hx;obtain rfl:=Ue hr1;have bad:∀{X:Prop},YW (BH,YZ)=YW r->(Calls prog 191 #[.string s] w λe w'=>e=.returned (.tuple #[.agg #[Y1 Y2 0,Y1 Y2 0,.string ⟨#[]⟩],.bool YZ])/\Up w w')->Calls prog 191 #[.string s] w λe w'=>e=.returned (.tuple #[.agg #[Y1 Y2 r.1.aw,Y1 Y2 r.1.bO,.string r.1.aY],.bool r.2])/\Up w w':=λe h=>by
  obtain rfl:=VX e;exact h
 unfold jG at H
 by_cases hm:s.size<=100000000
 case neg=>rw[if_neg hm]at H;cases H
 rw[if_pos hm]at H
 by_cases hs:s.size=15
 ·rw[if_pos hs]at H
  by_cases h1:∃v,Lib.atoiAll (s.extract 0 1).data.toList=.ok v
  ·obtain⟨a,h1⟩:=h1
   rw[h1]at H
   by_cases h2:∃v,Lib.atoiAll (s.extract 1 10).data.toList=.ok v
   ·obtain⟨b,h2⟩:=h2
    rw[h2]at H
    simp only at H
    cases hF:dE ⟨a,b,s.extract 10 13⟩with
    |none=>rw[hF]at H;cases H
    |some t=>
     rw[hF,VT]at H
     obtain rfl:=VX H;refine(Dk s w ht hs h1 h2 hF).mono λe w' ⟨h1,h2⟩=>⟨?_,h2⟩
     rw[h1]
     split<;>rfl
   ·have h2':∀v,Lib.atoiAll (s.extract 1 10).data.toList≠.ok v:=λv e=>h2 ⟨v,e⟩
    refine bad (X:=True) ?_ (Bi s w ht hs h1 h2');rw[<-H]
    cases hh:Lib.atoiAll (s.extract 1 10).data.toList with
    |ok v=>exact absurd hh (h2' v)
    |_=>rfl
  ·have KN:∀v,Lib.atoiAll (s.extract 0 1).data.toList≠.ok v:=λv e=>h1 ⟨v,e⟩
   refine bad (X:=True) ?_ (Bh s w ht hs KN);rw[<-H]
   cases hh:Lib.atoiAll (s.extract 0 1).data.toList with
   |ok v=>exact absurd hh (KN v)
   |_=>rfl
 ·rw[if_neg hs]at H
  exact bad (X:=True) H (Dl s w hs hm)
instance (s:ByteArray):CT prog (jG s):=⟨191,[vs s],[],λr=>.tu [.ag [vi r.1.aw,vi r.1.bO,vs r.1.aY],vb r.2],λr=>[],xt s⟩
def jI(s:ByteArray)(y2:ByteArray)(y4:bl×Bool)(y6:Int×Bool)(y8:Int×Bool)(eh:List ByteArray)(s0:Int×(List Int)):Option ((Int×(List Int))⊕(List Int)):=
 cond (Y0 (s0.1<(eh.length:Int)))
 ((aB eh s0.1).bind λlr=>
 (dc lr).bind λoV=>
 (cr (bn ((s0.2:List Int).length+([oV.1]:List Int).length) 8)).bind λ_=>
 YW (.inl ((aM (s0.1+1)),((s0.2:List Int)++[oV.1]))))
 (YW (.inr s0.2))
instance (s:ByteArray)(y2:ByteArray)(y4:bl×Bool)(y6:Int×Bool)(y8:Int×Bool)(eh:List ByteArray):bp (jI s y2 y4 y6 y8 eh):=⟨λs0=>(vs s::.un::.be 0 0 0::.un::.un::.be 1 0 0::(U 41 (.ms 3::vi (eh.length:Int)::vi s0.1::(U 25 [])))),λs0=>[YW ⟨.of 44,7,[[vi 0,vi 0,vs (⟨#[]⟩),vs (⟨#[]⟩),vi 0,.v (.slice YX 0 0),vi 0]]⟩,YW ⟨.of 44,7,[[vi y4.1.aw,vi y4.1.bO,vs y4.1.aY,vs y2,vi y6.1,.ms 2,vi y8.1]]⟩,YW ⟨.of 3,1,s0.2.map aG⟩,YW ⟨.of 9,1,eh.map iU⟩]⟩
def jy(s:ByteArray):Option (aL×Bool):=
 (iI s (⟨#[32]⟩)).bind λy1=>
 cond (!decide ((y1.length:Int)=5))
 (YW ((⟨(⟨0,0,⟨#[]⟩⟩:bl),⟨#[]⟩,0,[],0⟩:aL),YZ))
 ((aB y1 1).bind λy2=>
 (aB y1 0).bind λy3=>
 (jG y3).bind λy4=>
 (aB y1 2).bind λy5=>
 (dc y5).bind λy6=>
 (aB y1 4).bind λy7=>
 (dc y7).bind λy8=>
 (aB y1 3).bind λy9=>
 (iI y9 (⟨#[120]⟩)).bind λeh=>
 (aE (jI s y2 y4 y6 y8 eh) NN (0,[])).bind (λo0=>
 cond (Y0 (s=⟨#[]⟩))
 (YW ((⟨(⟨0,0,⟨#[]⟩⟩:bl),⟨#[]⟩,0,[],0⟩:aL),YZ))
 ((gq (⟨y4.1,y2,y6.1,o0,y8.1⟩:aL)).bind λoD=>
 cond (!decide (oD=s))
 (YW ((⟨(⟨0,0,⟨#[]⟩⟩:bl),⟨#[]⟩,0,[],0⟩:aL),YZ))
 (YW ((⟨y4.1,y2,y6.1,o0,y8.1⟩:aL),YY)))))
instance (s:ByteArray):CT prog (jy s):=⟨121,[vs s],[],λr=>.tu [.ag [vi r.1.label.aw,vi r.1.label.bO,vs r.1.label.aY,vs r.1.ar,vi r.1.ab,.ms 0,vi r.1.value],vb r.2],λr=>[YW ⟨.of 3,1,r.1.bE.map aG⟩],cw (jy.eq_1 ..) func121 ntmps121 results121⟩
def nP(s:ByteArray):Option (av×Bool):=
 (ie s (⟨#[47]⟩)).bind λy1=>
 (dc y1.1).bind λy2=>
 (dc y1.2.1).bind λy3=>
 cond y1.2.2
 (cond y2.2
 (YW ((⟨y2.1,y3.1⟩:av),y3.2))
 (YW ((⟨y2.1,y3.1⟩:av),YZ)))
 (YW ((⟨y2.1,y3.1⟩:av),YZ))
instance (s:ByteArray):CT prog (nP s):=⟨123,[vs s],[],λr=>.tu [.ag [vi r.1.bH,vi r.1.day],vb r.2],λr=>[],cw (nP.eq_1 ..) func123 ntmps123 results123⟩
def dU(s:ByteArray):Option (ba×Bool):=
 (ie s (⟨#[32]⟩)).bind λy1=>
 (jn 3 23 (
 cond (Y0 (y1.1=⟨#[116,97,107,101]⟩))
 ((jy y1.2.1).bind λy2=>
 YW (.inl (1,y2.1.label.aw,y2.1.label.bO,y2.1.label.aY,y2.1.ar,y2.1.ab,y2.1.value,0,0,0,0,0,y2.1.bE)))
 (cond (Y0 (y1.1=⟨#[112,97,121]⟩))
 ((ie y1.2.1 (⟨#[32]⟩)).bind λy3=>
 (dc y3.1).bind λy4=>
 (dc y3.2.1).bind λy5=>
 YW (.inl (2,0,0,⟨#[]⟩,⟨#[]⟩,0,0,y4.1,y5.1,0,0,0,[])))
 (cond (Y0 (y1.1=⟨#[114,117,110]⟩))
 ((dc y1.2.1).bind λy6=>
 YW (.inl (3,0,0,⟨#[]⟩,⟨#[]⟩,0,0,0,0,y6.1,0,0,[])))
 (cond (Y0 (y1.1=⟨#[115,104,117,116]⟩))
 ((nP y1.2.1).bind λy7=>
 YW (.inl (4,0,0,⟨#[]⟩,⟨#[]⟩,0,0,0,0,0,y7.1.bH,y7.1.day,[])))
 (cond (Y0 (y1.1=⟨#[114,101,116,114,121]⟩))
 (YW (.inl (5,0,0,⟨#[]⟩,⟨#[]⟩,0,0,0,0,0,0,0,[])))
 (cond (Y0 (y1.1=⟨#[114,101,102,117,110,100]⟩))
 ((dc y1.2.1).bind λy8=>
 YW (.inl (6,0,0,⟨#[]⟩,⟨#[]⟩,0,0,y8.1,0,0,0,0,[])))
 (YW (.inl (0,0,0,⟨#[]⟩,⟨#[]⟩,0,0,0,0,0,0,0,[])))))))):Option ((Int×Int×Int×ByteArray×ByteArray×Int×Int×Int×Int×Int×Int×Int×(List Int))⊕Empty)) (λz9=>(vs s::.un::.be 0 0 0::(U 4 (.be 1 0 0::(U 81 []))))) (λz9=>[YW ⟨.of 48,13,[[vi 0,vi 0,vi 0,vs (⟨#[]⟩),vs (⟨#[]⟩),vi 0,.v (.slice YX 0 0),vi 0,vi 0,vi 0,vi 0,vi 0,vi 0]]⟩,YW ⟨.of 48,13,[[vi z9.1,vi z9.2.1,vi z9.2.2.1,vs z9.2.2.2.1,vs z9.2.2.2.2.1,vi z9.2.2.2.2.2.1,.ms 2,vi z9.2.2.2.2.2.2.1,vi z9.2.2.2.2.2.2.2.1,vi z9.2.2.2.2.2.2.2.2.1,vi z9.2.2.2.2.2.2.2.2.2.1,vi z9.2.2.2.2.2.2.2.2.2.2.1,vi z9.2.2.2.2.2.2.2.2.2.2.2.1]]⟩,YW ⟨.of 3,1,z9.2.2.2.2.2.2.2.2.2.2.2.2.map aG⟩])).bind (bh (λz9=>
 cond (Y0 (s=⟨#[]⟩))
 (YW ((⟨0,(⟨(⟨0,0,⟨#[]⟩⟩:bl),⟨#[]⟩,0,[],0⟩:aL),0,0,0,(⟨0,0⟩:av)⟩:ba),YZ))
 ((bL (⟨z9.1,(⟨(⟨z9.2.1,z9.2.2.1,z9.2.2.2.1⟩:bl),z9.2.2.2.2.1,z9.2.2.2.2.2.1,z9.2.2.2.2.2.2.2.2.2.2.2.2,z9.2.2.2.2.2.2.1⟩:aL),z9.2.2.2.2.2.2.2.1,z9.2.2.2.2.2.2.2.2.1,z9.2.2.2.2.2.2.2.2.2.1,(⟨z9.2.2.2.2.2.2.2.2.2.2.1,z9.2.2.2.2.2.2.2.2.2.2.2.1⟩:av)⟩:ba)).bind λeh=>
 cond (!decide (eh=s))
 (YW ((⟨0,(⟨(⟨0,0,⟨#[]⟩⟩:bl),⟨#[]⟩,0,[],0⟩:aL),0,0,0,(⟨0,0⟩:av)⟩:ba),YZ))
 (YW ((⟨z9.1,(⟨(⟨z9.2.1,z9.2.2.1,z9.2.2.2.1⟩:bl),z9.2.2.2.2.1,z9.2.2.2.2.2.1,z9.2.2.2.2.2.2.2.2.2.2.2.2,z9.2.2.2.2.2.2.1⟩:aL),z9.2.2.2.2.2.2.2.1,z9.2.2.2.2.2.2.2.2.1,z9.2.2.2.2.2.2.2.2.2.1,(⟨z9.2.2.2.2.2.2.2.2.2.2.1,z9.2.2.2.2.2.2.2.2.2.2.2.1⟩:av)⟩:ba),YY)))) (λr=>r.elim))
instance (s:ByteArray):CT prog (dU s):=⟨61,[vs s],[],λr=>.tu [.ag [vi r.1.kind,vi r.1.aJ.label.aw,vi r.1.aJ.label.bO,vs r.1.aJ.label.aY,vs r.1.aJ.ar,vi r.1.aJ.ab,.ms 0,vi r.1.aJ.value,vi r.1.order,vi r.1.bC,vi r.1.bI,vi r.1.bk.bH,vi r.1.bk.day],vb r.2],λr=>[YW ⟨.of 3,1,r.1.aJ.bE.map aG⟩],cw (dU.eq_1 ..) func61 ntmps61 results61⟩
def ga(y1:List ByteArray)(s0:Int×(List ba)):Option ((Int×(List ba))⊕(List ba)):=
 cond (Y0 (s0.1<((Wm (aM ((y1.length:Int)-1))-Wm 0:Nat):Int)))
 ((aB (cM y1 0 (aM ((y1.length:Int)-1))) s0.1).bind λy2=>
 (dU y2).bind λy3=>
 cond (!y3.2)
 (YW (.inr s0.2))
 (cond (Y0 (150<=(s0.2.length:Int)))
 (YW (.inr s0.2))
 ((cr (bn ((s0.2:List ba).length+([y3.1]:List ba).length) 136)).bind λ_=>
 YW (.inl ((aM (s0.1+1)),((s0.2:List ba)++[y3.1]))))))
 (YW (.inr s0.2))
instance (y1:List ByteArray):bp (ga y1):=⟨λs0=>(U 4 (.ms 0::(U 11 (.sl ((cM y1 0 (aM ((y1.length:Int)-1))).map iU)::vi ((Wm (aM ((y1.length:Int)-1))-Wm 0:Nat):Int)::vi s0.1::(U 21 []))))),λs0=>[YW ⟨⟨48,YW 3⟩,13,s0.2.map cX⟩]⟩
def dJ(s:ByteArray):Option (List ba):=
 (iI s (⟨#[10]⟩)).bind λy1=>
 (cr (fJ 0 (aM ((y1.length:Int)-1)) y1.length)).bind λ_=>
 (aE (ga y1) NN (0,([]:List ba))).bind (λo0=>
 YW o0)
instance (s:ByteArray):CT prog (dJ s):=⟨19,[vs s],[],λr=>.ms 0,λr=>[YW ⟨⟨48,YW 3⟩,13,r.map cX⟩],ck (dJ.eq_1 ..) func19 ntmps19 results19⟩
end Go.Proofs.YtdilaemengjipaaGreatDoor
