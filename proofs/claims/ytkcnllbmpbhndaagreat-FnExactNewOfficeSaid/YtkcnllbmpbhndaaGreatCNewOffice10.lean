/- A part of the proof of the statement in the last file of this claim: texts on the language of the program and on its functions. No condition. -/
import Derived.Test.YtkcnllbmpbhndaaGreatCNewOffice8
import Derived.Test.YtkcnllbmpbhndaaGreatCNewOffice9
namespace Go.Proofs.YtkcnllbmpbhndaaGreat
set_option maxRecDepth 10000
open Go.RowKit
set_option linter.unusedVariables false
set_option linter.unusedSimpArgs false
set_option maxHeartbeats 1000000
theorem Zay {σ ο:Type} {body:σ→Option (σ ⊕ ο)} {s:σ} {o:ο} (h:body s=some (.inr o)):Zc body NN s=some o:=by
 show Zc body (1152921504606846975+1) s=some o
 unfold Zc; rw [h]; rfl
theorem ZeF {n:Nat} {b:Nat} (h:n≤1048576) (hb:b≤1024):Zaj (0+n) b=true:=by
 unfold Zaj
 refine decide_eq_true ?_
 constructor
 ·omega
 ·have:(0+n)*b≤1048576*1024:=Nat.mul_le_mul (by omega) hb
  omega
theorem ZkC {n:YNetwork} (h:Zax n):Zaf n=some n:=by
 unfold Zaf
 simp only [List.length_nil,ZeF h.legs (show 64≤1024 by omega),ZeF h.off (show 8≤1024 by omega),Ze5,Option.bind_some,List.nil_append]
theorem Ztx {n:YNetwork} (h:Zu n≤1048576):Zad n=some n:=ZlN n h
def newW (n:YNetwork) (s:List Int):Zf:=⟨n,[],[],[],0,[],s,0⟩
theorem Znp {n:YNetwork} {s:List Int} (h:Zax n) (hs:s.length≤1048576):WFit (newW n s):=⟨h,by simp [newW],by simp [newW],by simp [newW],by simp [newW],hs,by simp [newW]⟩
theorem ZkW {s:List Int} (h:s.length≤1048576):Z0 s=some s:=by
 unfold Z0
 simp only [List.length_nil,ZeF h (show 8≤1024 by omega),Ze5,Option.bind_some,List.nil_append]
theorem Zpr {n:YNetwork} {s:List Int} (h:Zax n) (hs:s.length≤1048576):Za3 (newW n s)=some (newW n s):=by
 unfold Za3
 have h0:∀ w y,Zc (ZdJ w y) NN ()=some ():=fun _ _=>Zay rfl
 have h6:ZdE []=some []:=rfl
 simp only [newW]
 simp only [List.length_nil,ZeF h.legs (show 64≤1024 by omega),ZeF (n:=0) (by omega) (show 16≤1024 by omega),ZeF (n:=0) (by omega) (show 56≤1024 by omega),Ze5,Option.bind_some,List.nil_append,ZkW h.off,ZkW hs,h0,h6]
theorem Zps {n:YNetwork} {s:List Int} (h:Zax n) (hs:s.length≤1048576):Zcj (newW n s)=some (newW n s,newW n s):=by
 unfold Zcj
 have h0:∀ y,Zc (Zb0 (newW n s) y) NN (0,([]:List Zr))=some []:=fun y=>Zay (by unfold Zb0 newW; rfl)
 have h6:ZdE []=some []:=rfl
 simp only [newW] at h0 ⊢
 simp only [List.length_nil,ZeF h.legs (show 64≤1024 by omega),ZeF (n:=0) (by omega) (show 16≤1024 by omega),ZeF (n:=0) (by omega) (show 56≤1024 by omega),Ze5,Option.bind_some,List.nil_append,ZkW h.off,ZkW hs,h0,h6]
def Zj4:YNetwork:=⟨[],[],0⟩
def newR (n:YNetwork) (s:List Int):Zf × Bool:=if Zf6 (newW n s) then (newW n s,true) else (newW Zj4 [],false)
theorem Zql {n:YNetwork} {s:List Int} (h:Zax n) (hs:s.length≤1048576):Za2 n s=some (newR n s):=by
 unfold Za2 newR
 show (Za3 (newW n s)).bind _=_
 rw [Zpr h hs,Option.bind_some,ZjG (Znp h hs),Option.bind_some]
 cases Zf6 (newW n s) <;> rfl
theorem Zpj {n:YNetwork} {s:List Int} (h:Zax n) (hs:s.length≤1048576):Za1 n s=some (newR n s):=by
 unfold Za1 newR
 rw [ZkC h,Option.bind_some]
 simp only [List.length_nil,ZeF hs (show 8≤1024 by omega),Ze5,Option.bind_some,List.nil_append]
 show (ZbS (newW n s)).bind _=_
 rw [Zjs (Znp h hs),Option.bind_some]
 cases Zf6 (newW n s) <;> rfl
theorem ZiK (n:YNetwork) (s:List Int):∃ (n':YNetwork) (s':List Int) (b:Bool),newR n s=(newW n' s',b)∧(n'=n∧s'=s∨n'=Zj4∧s'=[]):=by
 unfold newR
 cases Zf6 (newW n s) with
 | true=>exact ⟨n,s,true,rfl,.inl ⟨rfl,rfl⟩⟩
 | false=>exact ⟨Zj4,[],false,rfl,.inr ⟨rfl,rfl⟩⟩
def offW (w:Zf) (z:List YZone) (r:List YRate) (p:List Int):Zj:=⟨w,z,r,p,[],[],[]⟩
def Zs6:Zj:=offW (newW Zj4 []) [] [] []
section
variable {n:YNetwork} {s:List Int} {z:List YZone} {r:List YRate} {p:List Int}
theorem ZoN (h:Zax n) (hs:s.length≤1048576) (hz:z.length≤1048576) (hr:r.length≤1048576) (hp:p.length≤1048576):Za4 (offW (newW n s) z r p)=some (offW (newW n s) z r p,offW (newW n s) z r p):=by
 unfold Za4
 have h0:∀ a b c d,Zc (ZdK a b c d) NN ()=some ():=fun _ _ _ _=>Zay rfl
 have h1:∀ a b c d,Zc (ZdL a b c d) NN ()=some ():=fun _ _ _ _=>Zay rfl
 have hl:ZeD []=some []:=rfl
 have hw:=Zps h hs
 simp only [newW] at hw
 simp only [offW,newW,drwL,rhoM,Option.bind_some]
 rw [hw]
 simp only [List.length_nil,ZeF hz (show 32≤1024 by omega),ZeF hr (show 32≤1024 by omega),Ze5,Option.bind_some,List.nil_append,ZkW hp,hl,h0,h1]
theorem ZtT (h:Zax n) (hs:s.length≤1048576):Zbf (newW n s)=some (newW n s,newW n s):=by
 unfold Zbf
 have h0:∀ a b c d,Zc (Zc9 a b c d) NN ()=some ():=fun _ _ _ _=>Zay rfl
 have hb:ZcB []=some []:=rfl
 have ht:Zd3 []=some []:=rfl
 simp only [newW]
 rw [ZkC h,Option.bind_some,hb,Option.bind_some,ht,Option.bind_some]
 simp only [List.length_nil,ZeF hs (show 8≤1024 by omega),ZeF (n:=0) (by omega) (show 56≤1024 by omega),Ze5,Option.bind_some,List.nil_append,h0]
theorem ZoM (h:Zax n) (hs:s.length≤1048576) (hz:z.length≤1048576) (hr:r.length≤1048576) (hp:p.length≤1048576):Zag (offW (newW n s) z r p)=some (offW (newW n s) z r p,offW (newW n s) z r p):=by
 unfold Zag
 have h0:∀ a b c,Zc (ZcE a b c) NN ()=some ():=fun _ _ _=>Zay rfl
 have h1:∀ a b c,Zc (ZcF a b c) NN ()=some ():=fun _ _ _=>Zay rfl
 have hl:Zd2 []=some []:=rfl
 have hw:=ZtT h hs
 simp only [newW] at hw
 simp only [offW,newW,drwL,rhoM,Option.bind_some]
 rw [hw]
 simp only [List.length_nil,ZeF hz (show 32≤1024 by omega),ZeF hr (show 32≤1024 by omega),ZeF hp (show 8≤1024 by omega),Ze5,Option.bind_some,List.nil_append,hl,h0,h1]
def offR (n:YNetwork) (s:List Int) (z:List YZone) (r:List YRate) (p:List Int):Zj × Bool:=
 cond (newR n s).2 (cond (Zfr (offW (newR n s).1 z r p)) (offW (newR n s).1 z r p,true) (Zs6,false)) (Zs6,false)
theorem Zsj (h:WFit (newW n s)) (hz:Ze2 z) (hr:r.length≤1048576) (hp:p.length≤1048576):OFit (offW (newW n s) z r p):=
 ⟨h,hz,hr,by show p.length≤2000000; omega,by simp [offW],by simp [offW],by simp [offW],by simp [offW],by simp [offW]⟩
theorem Zuc:Zax Zj4:=ZiJ (by simp [Zj4,Zu,totS])
theorem Ztp (h:Zax n) (hs:s.length≤1048576) (hz:Ze2 z) (hr:r.length≤1048576) (hp:p.length≤1048576):ZT n s z r p=some (offR n s z r p):=by
 unfold ZT offR
 rw [Zql h hs,Option.bind_some]
 obtain ⟨n',s',b,e,hor⟩:=ZiK n s
 have h':Zax n'∧s'.length≤1048576:=by
  rcases hor with ⟨rfl,rfl⟩ | ⟨rfl,rfl⟩
  ·exact ⟨h,hs⟩
  ·exact ⟨Zuc,by simp⟩
 rw [e]
 show (Za4 (offW (newW n' s') z r p)).bind _=_
 rw [ZoN h'.1 h'.2 hz.1 hr hp,Option.bind_some]
 cases b with
 | false=>rfl
 | true=>
  show (Zcl (offW (newW n' s') z r p)).bind _=_
  rw [Zmq (Zsj (Znp h'.1 h'.2) hz hr hp),Option.bind_some]
  show _=some (cond (Zfr (offW (newW n' s') z r p)) _ _)
  cases Zfr (offW (newW n' s') z r p) <;> rfl
theorem ZsU (h:Zax n) (hs:s.length≤1048576) (hz:Ze2 z) (hr:r.length≤1048576) (hp:p.length≤1048576):ZaK n s z r p=some (offR n s z r p):=by
 unfold ZaK offR
 rw [Zpj h hs,Option.bind_some]
 obtain ⟨n',s',b,e,hor⟩:=ZiK n s
 have h':Zax n'∧s'.length≤1048576:=by
  rcases hor with ⟨rfl,rfl⟩ | ⟨rfl,rfl⟩
  ·exact ⟨h,hs⟩
  ·exact ⟨Zuc,by simp⟩
 rw [e]
 show (Zag (offW (newW n' s') z r p)).bind _=_
 rw [ZoM h'.1 h'.2 hz.1 hr hp,Option.bind_some]
 cases b with
 | false=>rfl
 | true=>
  show (Zb3 (offW (newW n' s') z r p)).bind _=_
  rw [ZlX (Zsj (Znp h'.1 h'.2) hz hr hp),Option.bind_some]
  show _=some (cond (Zfr (offW (newW n' s') z r p)) _ _)
  cases Zfr (offW (newW n' s') z r p) <;> rfl
theorem ZuV (h:Zu n≤1048576) (hs:s.length≤1048576):Zc5 ⟨n,[],[],[],0,[],s,0⟩ ⟨n,[],[],[],0,[],s,0⟩=some true:=by
 have e0:=Zil n h
 have e1:=ZnR [] (by simp) (fun y hy=>by cases hy)
 have e2:=ZkM [] (by simp) (fun y hy=>by cases hy)
 have e3:=Zo8 [] (by simp) (fun y hy=>by cases hy)
 have e4:=Zo7 [] (by simp) (fun y hy=>by cases hy)
 have e5:=ZgS s hs
 simp [Zc5,e0,e1,e2,e3,e4,e5]
theorem eqZ (h:totS Z5 z≤1048576):ZbU z z=some true:=Zo9 z (by have:=ZeE Z5 z; omega) fun x hx=>ZqY x (by have:=Zgj Z5 hx; omega)
theorem ZuW (h:Zu n≤1048576) (hs:s.length≤1048576) (hz:totS Z5 z≤1048576) (hr:r.length≤1048576) (hp:p.length≤1048576):Zba ⟨⟨n,[],[],[],0,[],s,0⟩,z,r,p,[],[],[]⟩ ⟨⟨n,[],[],[],0,[],s,0⟩,z,r,p,[],[],[]⟩=some true:=by
 have e0:=ZuV h hs
 have e1:=eqZ hz
 have e2:=ZkN r hr (fun y _=>Zm8 y)
 have e3:=ZgS p hp
 have e4:=ZlR [] (by simp) (fun y hy=>by cases hy)
 have e5:=Zo6 [] (by simp) (fun y hy=>by cases hy)
 have e6:=ZqW [] (by simp) (fun y hy=>by cases hy)
 simp [Zba,e0,e1,e2,e3,e4,e5,e6]
end
theorem Zjw (n:YNetwork) (k:Int) (hn:n.legs.length≤1048576) (ho:n.off.length≤1048576) (h0:1≤k) (h1:k≤900000000):
 Z7 n k=some (k+6*n.legs.length+n.off.length,⟨mkL k n.legs.length,mkI (k+6*n.legs.length) n.off.length,n.change⟩):=by
 unfold Z7
 simp only [rhoM,Option.bind_some,Zl1 n.legs k hn h0 (by omega),Zfd n.off (k+6*n.legs.length) ho (by omega) (by omega)]
theorem ZnS (k:Int) (a b:Nat) (c:Int) (hn:a≤1048576) (ho:b≤1048576) (h0:1≤k) (h1:k≤900000000):
 ZbC ⟨mkL k a,mkI (k+6*a) b,c⟩ k=some (k+6*a+b):=by
 unfold ZbC
 have d1:decide (k+6*(a:Int)<0)=false:=decide_eq_false (by omega)
 have d2:decide (k+6*(a:Int)+b<0)=false:=decide_eq_false (by omega)
 simp only [ZlV k a hn h0 (by omega),Zgw (k+6*a) b ho (by omega) (by omega),Option.bind_some,d1,d2,cond_false]
theorem mO (k:Int):ZaU [] k=some k:=by unfold ZaU; rw [Zay (o:=()) rfl]; rfl
theorem mB (k:Int):Zam [] k=some (k,[]):=by unfold Zam; rw [Zay (o:=(k,[])) rfl]; rfl
theorem mT (k:Int):Zbi [] k=some (k,[]):=by unfold Zbi; rw [Zay (o:=(k,[])) rfl]; rfl
theorem mS (k:Int):Zbh [] k=some (k,[]):=by unfold Zbh; rw [Zay (o:=(k,[])) rfl]; rfl
theorem mP (k:Int):ZaE [] k=some k:=by unfold ZaE; rw [Zay (o:=()) rfl]; rfl
theorem mLn (k:Int):Zbg [] k=some (k,[]):=by unfold Zbg; rw [Zay (o:=(k,[])) rfl]; rfl
theorem mA (k:Int):ZbE [] k=some k:=by unfold ZbE; rw [Zay (o:=()) rfl]; rfl
theorem hO (k:Int):Zcg [] k=some k:=by unfold Zcg; rw [Zay (o:=.inl k) rfl]; rfl
theorem hB (k:Int):Zbc [] k=some k:=by unfold Zbc; rw [Zay (o:=.inl k) rfl]; rfl
theorem hT (k:Int):Zbq [] k=some k:=by unfold Zbq; rw [Zay (o:=.inl k) rfl]; rfl
theorem hS (k:Int):ZcT [] k=some k:=by unfold ZcT; rw [Zay (o:=.inl k) rfl]; rfl
theorem hP (k:Int):ZbD [] k=some k:=by unfold ZbD; rw [Zay (o:=.inl k) rfl]; rfl
theorem hLn (k:Int):ZcR [] k=some k:=by unfold ZcR; rw [Zay (o:=.inl k) rfl]; rfl
theorem hA (k:Int):Zdh [] k=some k:=by unfold Zdh; rw [Zay (o:=.inl k) rfl]; rfl
theorem Zrf (n:YNetwork) (s:List Int) (hn:n.legs.length≤1048576) (ho:n.off.length≤1048576) (hs:s.length≤1048576):
 Zbj ⟨n,[],[],[],0,[],s,0⟩ 1=some (((1+6*n.legs.length+n.off.length+s.length:Int)),⟨⟨mkL 1 n.legs.length,mkI (1+6*n.legs.length) n.off.length,n.change⟩,[],[],[],0,[],mkI (1+6*n.legs.length+n.off.length) s.length,0⟩)∧∀ c,ZcU ⟨⟨mkL 1 n.legs.length,mkI (1+6*n.legs.length) n.off.length,c⟩,[],[],[],0,[],mkI (1+6*n.legs.length+n.off.length) s.length,0⟩ 1=some (1+6*n.legs.length+n.off.length+s.length:Int):=by
 refine ⟨?_,fun c=>?_⟩
 ·unfold Zbj
  simp only [rhoM,Option.bind_some,Zjw n 1 hn ho (by omega) (by omega),mO,mB,mT,mS,Zfd s (1+6*n.legs.length+n.off.length) hs (by omega) (by omega)]
 ·unfold ZcU
  have d1:decide ((1:Int)+6*(n.legs.length:Int)+n.off.length<0)=false:=decide_eq_false (by omega)
  have d2:decide ((1:Int)+6*(n.legs.length:Int)+n.off.length+s.length<0)=false:=decide_eq_false (by omega)
  simp only [ZnS 1 n.legs.length n.off.length c hn ho (by omega) (by omega),hO,hB,hT,hS,Zgw (1+6*n.legs.length+n.off.length) s.length hs (by omega) (by omega),Option.bind_some,d1,d2,cond_false]
theorem Zpu (n:YNetwork) (s:List Int) (z:List YZone) (r:List YRate) (p:List Int) (hn:n.legs.length≤1048576) (ho:n.off.length≤1048576) (hs:s.length≤1048576) (hz:z.length≤1048576) (hr:r.length≤1048576) (hp:p.length≤1048576):
 ∃ (q:Int) (y:Zj),ZaT ⟨⟨n,[],[],[],0,[],s,0⟩,z,r,p,[],[],[]⟩ 1=some (q,y)∧0≤q∧∀ c,Za0 ⟨⟨⟨y.world.network.legs,y.world.network.off,c⟩,[],y.world.bookings,y.world.closed,0,y.world.scans,y.world.skip,0⟩,y.zones,y.rates,y.percents,[],y.lines,[]⟩ 1=some q:=by
 obtain ⟨m1,m2⟩:=Zrf n s hn ho hs
 generalize hk:(1:Int)+6*n.legs.length+n.off.length+s.length=k at m1 m2
 have k0:1≤k:=by omega
 have k1:k≤100000000:=by omega
 refine ⟨k+2*z.length+4*r.length+p.length,⟨⟨⟨mkL 1 n.legs.length,mkI (1+6*n.legs.length) n.off.length,n.change⟩,[],[],[],0,[],mkI (1+6*n.legs.length+n.off.length) s.length,0⟩,mkZ k z.length,mkR (k+2*z.length) r.length,mkI (k+2*z.length+4*r.length) p.length,[],[],[]⟩,?_,by omega,fun c=>?_⟩
 ·unfold ZaT
  simp only [rhoM,Option.bind_some,m1,ZhG z k hz k0 (by omega),ZhF r (k+2*z.length) hr (by omega) (by omega),Zfd p (k+2*z.length+4*r.length) hp (by omega) (by omega),mP,mLn,mA]
 ·unfold Za0
  have d0:decide (k<0)=false:=decide_eq_false (by omega)
  have d1:decide (k+2*(z.length:Int)<0)=false:=decide_eq_false (by omega)
  have d2:decide (k+2*(z.length:Int)+4*r.length<0)=false:=decide_eq_false (by omega)
  have d3:decide (k+2*(z.length:Int)+4*r.length+p.length<0)=false:=decide_eq_false (by omega)
  simp only [m2 c,ZkU k z.length hz k0 (by omega),ZkT (k+2*z.length) r.length hr (by omega) (by omega),Zgw (k+2*z.length+4*r.length) p.length hp (by omega) (by omega),hP,hLn,hA,Option.bind_some,d0,d1,d2,d3,cond_false]
theorem ZpB {n:YNetwork} {s:List Int} {z:List YZone} {r:List YRate} {p:List Int} (hn:Zu n≤1048576) (hs:s.length≤1048576) (hz:totS Z5 z≤1048576) (hr:r.length≤1048576) (hp:p.length≤1048576):
 ∃ n' s' z' r' p' b,offR n s z r p=(⟨⟨n',[],[],[],0,[],s',0⟩,z',r',p',[],[],[]⟩,b)∧Zu n'≤1048576∧s'.length≤1048576∧totS Z5 z'≤1048576∧r'.length≤1048576∧p'.length≤1048576:=by
 have no:Zu Zj4≤1048576:=by simp [Zj4,Zu,totS]
 have zr:∃ n' s' z' r' p' b,(Zs6,false)=((⟨⟨n',[],[],[],0,[],s',0⟩,z',r',p',[],[],[]⟩,b):Zj × Bool)∧Zu n'≤1048576∧s'.length≤1048576∧totS Z5 z'≤1048576∧r'.length≤1048576∧p'.length≤1048576:=
  ⟨Zj4,[],[],[],[],false,rfl,no,by simp,by simp [totS],by simp,by simp⟩
 unfold offR
 obtain ⟨n',s',b,e,hor⟩:=ZiK n s
 have h':Zu n'≤1048576∧s'.length≤1048576:=by
  rcases hor with ⟨rfl,rfl⟩ | ⟨rfl,rfl⟩
  ·exact ⟨hn,hs⟩
  ·exact ⟨no,by simp⟩
 rw [e]
 cases b with
 | false=>exact zr
 | true=>
  cases Zfr (offW (newW n' s') z r p) with
  | false=>exact zr
  | true=>exact ⟨n',s',z,r,p,true,rfl,h'.1,h'.2,hz,hr,hp⟩
theorem Zqm {n:YNetwork} {s:List Int} {z:List YZone} {r:List YRate} {p:List Int} {v:Zj × Bool} (h:ZT n s z r p=some v) (ho:v.1.world.orders=[]):Zae n s z r p=some v:=by
 unfold Zae
 rw [h,Option.bind_some,ho]
theorem lawFnExactNewOffice (n:YNetwork) (s:List Int) (z:List YZone) (r:List YRate) (p:List Int) (ok:okNetwork n) (_:okS okInt s) (okz:okS okZone z) (okr:okS okRate r) (_:okS okInt p):CallOk Tryz.prog 3 [.ag (cNetwork n),.sl (s.map cInt),.sl (z.map cZone),.sl (r.map cRate),.sl (p.map cInt)] (vb true) []:=by
 refine Zef n s z r p ?_
 unfold ZaW
 by_cases hs0:1048576<(s.length:Int)
 ·rw [decide_eq_true hs0]; rfl
 by_cases hp0:1048576<(p.length:Int)
 ·rw [decide_eq_false hs0,decide_eq_true hp0]; rfl
 have hs:s.length≤1048576:=by omega
 have hp:p.length≤1048576:=by omega
 rw [decide_eq_false hs0,decide_eq_false hp0,cond_false,cond_false,Zol n (by omega) (by omega) ok,Option.bind_some]
 by_cases hn0:szTo 1048576 (Zu n)<0
 ·rw [decide_eq_true hn0]; rfl
 obtain ⟨hn1,hn2⟩:=ZiZ hn0 (by omega)
 rw [decide_eq_false hn0,cond_false,ZrL z (left:=szTo 1048576 (Zu n)) (by omega) (by omega) okz.1 (fun x hx l h0 h1=>Ztu x h0 h1 (okz.2 x hx)),Option.bind_some]
 by_cases hz0:szTo (szTo 1048576 (Zu n)) (totS Z5 z)<0
 ·rw [decide_eq_true hz0]; rfl
 obtain ⟨hz1,hz2⟩:=ZiZ hz0 (by omega)
 rw [decide_eq_false hz0,cond_false,ZrK r (left:=szTo (szTo 1048576 (Zu n)) (totS Z5 z)) (by omega) (by omega) okr.1,Option.bind_some]
 by_cases hr0:szTo (szTo (szTo 1048576 (Zu n)) (totS Z5 z)) r.length<0
 ·rw [decide_eq_true hr0]; rfl
 obtain ⟨hr1,hr2⟩:=ZiZ hr0 (by omega)
 rw [decide_eq_false hr0,cond_false]
 have hn:Zu n≤1048576:=by omega
 have hz:totS Z5 z≤1048576:=by omega
 have hr:r.length≤1048576:=by omega
 have hzl:z.length≤1048576:=by have:=ZeE Z5 z; omega
 have hf:=ZiJ hn
 have hzf:Ze2 z:=⟨hzl,fun x hx=>by
  have:=Zgj Z5 hx
  have e:Z5 x=x.first.size+x.last.size:=rfl
  unfold B60
  omega⟩
 have c0:=Ztx hn
 have c1:=ZjM s hs
 have c2:=ZoP z hzl (fun x hx=>ZqP x (by have:=Zgj Z5 hx; omega))
 have c3:=ZoO r hr (fun x _=>ZqO x)
 have c4:=ZjM p hp
 have hsp:=Ztp hf hs hzf hr hp
 have him:=ZsU hf hs hzf hr hp
 obtain ⟨n',s',z',r',p',b,e,q1,q2,q3,q4,q5⟩:=ZpB hn hs hz hr hp
 rw [e] at hsp him
 have hsq:=Zqm hsp rfl
 have f':=ZiJ q1
 have hzl':z'.length≤1048576:=by have:=ZeE Z5 z'; omega
 obtain ⟨q,y,m1,m2,m3⟩:=Zpu n' s' z' r' p' f'.legs f'.off q2 hzl' q4 q5
 have d1:decide (q<0)=false:=decide_eq_false (by omega)
 have hl:=hf.legs
 have ho:=hf.off
 have k1:=Zjw n 1 hf.legs hf.off (by omega) (by omega)
 have k2:=Zfd s (1+6*n.legs.length+n.off.length) hs (by omega) (by omega)
 have k3:=ZhG z (1+6*n.legs.length+n.off.length+s.length) hzl (by omega) (by omega)
 have k4:=ZhF r (1+6*n.legs.length+n.off.length+s.length+2*z.length) hr (by omega) (by omega)
 have k5:=Zfd p (1+6*n.legs.length+n.off.length+s.length+2*z.length+4*r.length) hp (by omega) (by omega)
 have d2:decide ((1:Int)+6*n.legs.length+n.off.length+s.length+2*z.length+4*r.length+p.length<0)=false:=decide_eq_false (by omega)
 have m3':=m3 n'.change
 have qe:=ZuW q1 q2 q3 q4 q5
 have qr:=ZkN r hr (fun y _=>Zm8 y)
 simp only [c0,c1,c2,c3,c4,hsq,him,Option.bind_some,qe,Bool.not_true,cond_false,beq_self_eq_true,Zil n hn,ZgS s hs,eqZ hz,qr,ZgS p hp,rhoM,k1,k2,k3,k4,k5,d2,m1,m3',d1,decide_true]
end Go.Proofs.YtkcnllbmpbhndaaGreat
