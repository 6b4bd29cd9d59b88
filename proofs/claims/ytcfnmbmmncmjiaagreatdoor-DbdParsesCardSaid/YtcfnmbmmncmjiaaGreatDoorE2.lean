/- The program, function by function: the evaluator comes to the typed functions. Conditions: none. -/
import Derived.Test.YtcfnmbmmncmjiaaGreatDoorA3
import Derived.KernelRfl
import Derived.Test.YtcfnmbmmncmjiaaGreatDoorProg
import Derived.Test.YtcfnmbmmncmjiaaGreatDoorB1
import Derived.Test.YtcfnmbmmncmjiaaGreatDoorE1
set_option linter.unusedSimpArgs false
set_option linter.unusedVariables false
namespace Go.AE
open Go.Proofs.Tryz Go.Sh
set_option maxRecDepth 100000
set_option maxHeartbeats 4000000
noncomputable section
theorem U8 (k:Nat) (a0:Str):EV k 50 [(Sr a0)]=(O5 k a0).map nJ:=by
 cases k with
 | zero=>rfl
 | succ k=>
  unfold O5
  refine et (l9 (c:=f50c) (N:=20) (regs:=Jb) Z func50 Z (by decide) Z Z Z) $ kra [] Z $ kga FU Z (fun (o2:Int×Int)=>[(4,(I o2.1)),(5,(I o2.2))]) (rd 1 [(7,(Sr a0))] Z Z $ rp Z (j9 Z Z Z Z Z (iO k a0) (.inl Z)) fun v1=>b7 Z) fun o2=>et d4 $ kg FV Z (fun (o4:Bool)=>⟨[(4,(I o2.1)),(18,(Bo o4))],[],20⟩) ?_ fun o4=>?_
  ·refine rd 3 [(11,(I o2.2)),(12,(Bo (o2.2 != 0))),(13,(Bo (o2.2 != 0)))] Z Z $ w8 (fun hc=>?_) fun hc=>?_
   ·rw [hc]
    exact d8 Z
   ·rw [hc]
    exact rd 4 [(14,(I o2.1))] Z Z $ rp Z (j9 Z Z Z Z Z (B8 k o2.1) (.inl Z)) fun v3=>b7 Z
  refine kc Z Z (fun hc=>?_) fun hc=>?_
  ·rw [hc]
   refine et d4 $ kr ⟨[(2,(I 0)),(3,(Bo false))],[],20⟩ rfl $ et I4 ?_
   rfl
  ·rw [hc]
   refine et l6 $ kr ⟨[(2,(I o2.1)),(3,(Bo true))],[],20⟩ rfl $ et l7 ?_
   rfl
def nK:Int→V×List V:=fun r=>((I r),[])
theorem ia (k:Nat) (a0:Int):EV k 79 [(sqU a0)]=(Q6 k a0).map nK:=by
 cases k with
 | zero=>rfl
 | succ k=>
  unfold Q6
  refine et (l9 (c:=f79c) (N:=24) (regs:=Jv) Z func79 Z (by decide) Z Z Z) $ kra [] Z $ et (l5 Z) $ kga GE Z (fun (o1:Bool)=>[(3,(Bo o1))]) ?_ fun o1=>?_
  ·refine rd 3 [(4,(sqU a0)),(5,(Bo (decide (a0 ≥ 48)))),(6,(Bo (decide (a0 ≥ 48))))] Z Z $ w8 (fun hc=>?_) fun hc=>?_
   ·rw [hc]
    exact d8 Z
   ·rw [hc]
    exact d8 Z
  refine kcl Z Z (fun hc=>?_) fun hc=>?_
  ·rw [hc]
   refine kr (mI [(2,(I (sqW (sqB (a0 - 48)))))]) Z $ et l7 $ et u6 ?_
   rfl
  ·rw [hc]
   refine kg GF Z (fun (o2:Bool)=>(mI [(0,(sqU a0)),(13,(Bo o2))])) ?_ fun o2=>?_
   ·refine rd 3 [(14,(sqU a0)),(15,(Bo (decide (a0 ≥ 97)))),(16,(Bo (decide (a0 ≥ 97))))] Z Z $ w8 (fun hc=>?_) fun hc=>?_
    ·rw [hc]
     exact d8 Z
    ·rw [hc]
     exact d8 Z
   refine kcl Z Z (fun hc=>?_) fun hc=>?_
   ·rw [hc]
    refine kr (mI [(2,(I (sqW ((sqW (sqB (a0 - 97)))+10))))]) Z $ et l7 $ et u6 ?_
    rfl
   ·rw [hc]
    refine et w6 $ et j5 $ kr (mI [(2,(I (-1)))]) Z $ et l7 ?_
    rfl
def aH:(Str×Bool)→V×List V:=fun r=>(.tup [(Sr r.1),(Bo r.2)],[])
theorem iP (k:Nat) (a0:Str)  (K0:(List Int)→Int→Option (Str×Bool)) (Kst:X×St→Option (V×List V)) (hK0:∀ (y0:(List Int)) (y1:Int),Kst (X.exit 0,(ei (jl a0 y0 y1 [(15,(Bo false))])))=(K0 y0 y1).map aH) (hret:∀ s,Kst (X.ret,s)=P5 prog 43 [(Sr a0)] [] [.tmp 2,.tmp 3] (X.ret,s)):
  ∀ (m:Nat) (x0:(List Int)) (x1:Int),(L6 (C5 prog (EV k) HS k FZ) m (ei (jl a0 x0 x1 []))).bind Kst=(H8 k a0 K0 m x0 x1).map aH:=by
 intro m
 induction m with
 | zero=>intros; rfl
 | succ m ih=>
  intro x0 x1
  unfold H8
  refine et A6 $ et d4 $ kra [(15,(Bo (decide (x1 < (a0.length:Int)))))] Z $ kc Z Z (fun hc=>?_) fun hc=>?_
  ·rw [hc]
   refine et l6 $ et (l5 Z) $ kd FX Z (fun (o0:Int×Int)=>(ei (jl a0 x0 x1 [(6,(I o0.1)),(7,(I o0.2))]))) (et (k0 (p:=11) (dk:=true) (t:=(jl a0 x0 x1 [(15,(Bo true))])) (σ:=[]) (n:=43) Z (by decide) (by decide) Z) $ et (m8 (m:=2) (j:=2) (t':=(jl a0 x0 x1 [(15,(Bo true)),(18,(Sr a0)),(19,(I x1))])) Z Z Z) $ et (b5 (x:=(R2 a0 x1)) (w:=fun v0=>(sqU v0)) Z Z Z Z Z (F0 Z Z Z underlying9)) $ j3 fun v0=>et (c8 (m:=0) (j:=3) (t':=(jl a0 x0 x1 [(15,(Bo true)),(18,(Sr a0)),(19,(I x1)),(20,(sqU v0))])) Z Z Z) $ et (b5 (x:=(Q6 k v0)) (w:=fun v1=>(I v1)) Z Z Z Z Z (j9 Z Z Z Z Z (ia k v0) (.inl Z))) $ j3 fun v1=>et (c8 (m:=3) (j:=7) (t':=(jl a0 x0 x1 [(15,(Bo true)),(18,(Sr a0)),(19,(I x1)),(20,(sqU v0)),(21,(I v1)),(22,(Sr a0)),(23,(I x1)),(24,(I (sqW (x1+1))))])) Z Z Z) $ et (b5 (x:=(R2 a0 (sqW (x1+1)))) (w:=fun v2=>(sqU v2)) Z Z Z Z Z (F0 Z Z Z underlying9)) $ j3 fun v2=>et (c8 (m:=0) (j:=8) (t':=(jl a0 x0 x1 [(15,(Bo true)),(18,(Sr a0)),(19,(I x1)),(20,(sqU v0)),(21,(I v1)),(22,(Sr a0)),(23,(I x1)),(24,(I (sqW (x1+1)))),(25,(sqU v2))])) Z Z Z) $ et (b5 (x:=(Q6 k v2)) (w:=fun v3=>(I v3)) Z Z Z Z Z (j9 Z Z Z Z Z (ia k v2) (.inl Z))) $ j3 fun v3=>u0 Z) fun o0=>et d4 $ kga FY Z (fun (o1:Bool)=>[(32,(Bo o1))]) ?_ fun o1=>?_
   ·refine rd 3 [(27,(I o0.1)),(28,(Bo (decide (o0.1 < 0)))),(29,(Bo (decide (o0.1 < 0))))] Z Z $ w8 (fun hc=>?_) fun hc=>?_
    ·rw [hc]
     exact d8 Z
    ·rw [hc]
     exact d8 Z
   refine kc Z Z (fun hc=>?_) fun hc=>?_
   ·rw [hc]
    refine et d4 $ kr (ei [(2,(Sr ([]:Str))),(3,(Bo false))]) Z $ et I4 $ et u6 $ et A0 $ et (hret _) ?_
    rfl
   ·rw [hc]
    exact et l6 $ kgl Bp Z (fun (o2:(List Int))=>(ei (jl a0 o2 x1 []))) (ra 7 7 (ei [(0,(Sr a0)),(4,(V.sl 0 1 (List.map (sqU) x0))),(5,(I x1)),(6,(I o0.1)),(7,(I o0.2)),(32,(Bo false)),(33,(V.sl 1 1 (List.map (sqU) x0))),(34,(I o0.1)),(35,(I (sqW (16 * o0.1)))),(36,(I o0.2)),(37,(I (sqW ((sqW (16 * o0.1))+o0.2)))),(38,(sqU (sqB (sqW ((sqW (16 * o0.1))+o0.2))))),(39,(V.sl 0 1 (List.map (sqU) ([(sqB (sqW ((sqW (16 * o0.1))+o0.2)))]:List Int))))]) Z Z Z $ et (z6 (x:=(app x0 ([(sqB (sqW ((sqW (16 * o0.1))+o0.2)))]:List Int))) (w:=fun v4=>((V.sl 1 1 (List.map (sqU) v4)),_)) Z Z Z Z (ga (e:=(sqU)) Z Z Z Z Z Z Z Z Z Z (by decide))) $ s8 fun v4=>b7 Z) fun o2=>et j5 $ kl (ei (jl a0 o2 (sqW (x1+2)) [])) Z $ et j6 $ ih o2 (sqW (x1+2))
  ·rw [hc]
   exact et C1 $ et s5 $ hK0 x0 x1
theorem mt (k:Nat) (a0:Str):EV k 51 [(Sr a0)]=(O9 k a0).map aH:=by
 cases k with
 | zero=>rfl
 | succ k=>
  unfold O9
  refine et (l9 (c:=f51c) (N:=43) (regs:=HS) Z func51 Z (by decide) Z Z Z) $ kra [] Z $ et d4 $ kga FW Z (fun (o2:Bool)=>[(11,(Bo o2))]) (rd 2 [(8,(Sr a0)),(9,(I (a0.length:Int)))] Z Z $ rp Z (ut Z Z Z) fun v1=>b7 Z) fun o2=>kc Z Z (fun hc=>?_) fun hc=>?_
  ·rw [hc]
   refine et d4 $ kr (ei [(2,(Sr ([]:Str))),(3,(Bo false))]) Z $ et I4 ?_
   rfl
  ·rw [hc]
   refine et l6 $ kr (ei [(0,(Sr a0)),(4,(V.sl 1 1 (List.map (sqU) ([]:List Int))))]) Z $ et d4 $ kra [(5,(I 0))] Z $ et (l5 Z) $ et B0 ?_
   refine iP k a0 _ _ ?h_ref01_FromHex_L1_0 ?hr_ref01_FromHex_L1 k ([]:List Int) 0
   ·intro y0 y1
    refine et r9 $ krp Bq Z (ei [(2,(Sr (Go.AE.strB y0))),(3,(Bo true))]) ?_ ?_
    ·exact rd 1 [(41,(V.sl 0 1 (List.map (sqU) y0)))] Z Z $ rl Z (un (l:=y0) Z Z underlying58 underlying9 underlying5) $ b7 Z
    refine et l7 ?_
    rfl
   ·intro s; exact rfl
def G4:(a8×Bool)→V×List V:=fun r=>(.tup [(j8 r.1),(Bo r.2)],[])
theorem mA (k:Nat) (a0:Str) (o2:(List Str)) (x0:Int) (x1:Str) (x2:Int) (x3:(List a6)) (x4:(List b4)) (o0:(List Str)) (o1:Str×Bool)  (K0:Int→Int→Option (a8×Bool)) (Kst:X×St→Option (V×List V)) (hK0:∀ (y0:Int) (y1:Int),Kst (X.exit 3,(jX x3 x1 x2 x4 o1.1 y1 o1.2 (dT o2 x0 o0 y0 [(80,(Bo false))])))=(K0 y0 y1).map G4) (hret:∀ s,Kst (X.ret,s)=P5 prog 284 [(Sr a0)] [] [.cell 2 26,.tmp 3] (X.ret,s)):
  ∀ (m:Nat) (x5:Int) (x6:Int),(L6 (C5 prog (EV k) yL k EE) m (jX x3 x1 x2 x4 o1.1 x6 o1.2 (dT o2 x0 o0 x5 []))).bind Kst=(L5 x3 o0 K0 m x5 x6).map G4:=by
 intro m
 induction m with
 | zero=>intros; rfl
 | succ m ih=>
  intro x5 x6
  unfold L5
  refine et A6 $ et d4 $ krp Ay Z (jX x3 x1 x2 x4 o1.1 x6 o1.2 (dT o2 x0 o0 x5 [(80,(Bo (decide (x5 < (x3.length:Int)))))])) ?_ ?_
  ·exact rd 3 [(76,(I x5)),(77,(V.ptr 4 0 2)),(78,(aL 0 a7 x3))] Z Z $ rl Z (fB (e:=a7) Z Z Z Z Z Z underlying23) $ b7 Z
  refine kc Z Z (fun hc=>?_) fun hc=>?_
  ·rw [hc]
   refine et l6 $ et (l5 Z) $ kd Az Z (fun (o3:Bool)=>(jX x3 x1 x2 x4 o1.1 x6 o1.2 (dT o2 x0 o0 x5 [(92,(Bo o3))]))) ?_ fun o3=>?_
   ·refine et (k0 (p:=10) (dk:=true) (t:=(dT o2 x0 o0 x5 [(80,(Bo true))])) (σ:=(Hm x3 x1 x2 x4 o1.1 x6 o1.2)) (n:=284) Z (by decide) (by decide) Z) $ et (m8 (m:=3) (j:=3) (t':=(dT o2 x0 o0 x5 [(80,(Bo true)),(83,(V.ptr 4 0 2)),(84,(aL 0 a7 x3)),(85,(I x5))])) Z Z Z) $ et (b5 (x:=(inB x3.length x5)) (w:=fun v0=>(V.ptr 0 (0+x5.toNat) 0)) Z Z Z Z Z (de (e:=a7) Z Z Z underlying23 Z Z (by decide))) $ j3 fun v0=>et (c8 (m:=1) (j:=5) (t':=(dT o2 x0 o0 x5 [(80,(Bo true)),(83,(V.ptr 4 0 2)),(84,(aL 0 a7 x3)),(85,(I x5)),(86,(V.ptr 0 (0+x5.toNat) 0)),(87,(V.ptr 0 (0+x5.toNat) 0))])) Z Z Z) $ et (b5 (x:=(x3[0+x5.toNat]?)) (w:=fun v1=>(Sr v1.fName)) Z Z Z Z Z (fC (e:=a7) (part:=fun a=>(Sr a.fName)) Z Z Z (fun _=>rfl))) ?_
    exact j3 fun v1=>et (c8 (m:=1) (j:=7) (t':=(dT o2 x0 o0 x5 [(80,(Bo true)),(83,(V.ptr 4 0 2)),(84,(aL 0 a7 x3)),(85,(I x5)),(86,(V.ptr 0 (0+x5.toNat) 0)),(87,(V.ptr 0 (0+x5.toNat) 0)),(88,(Sr v1.fName)),(89,(sS o0))])) Z Z Z) $ et (b5 (x:=(idx o0 2)) (w:=fun v2=>(Pr (Sr v2))) Z Z Z Z Z (j7 (e:=V.str) Z Z Z underlying41 Z (by decide))) $ j3 fun v2=>u0 Z
   refine kcl Z Z (fun hc=>?_) fun hc=>?_
   ·rw [hc]
    exact kl (jX x3 x1 x2 x4 o1.1 x5 o1.2 (dT o2 x0 o0 x5 [])) Z $ et j5 $ kl (jX x3 x1 x2 x4 o1.1 x5 o1.2 (dT o2 x0 o0 (sqW (x5+1)) [])) Z $ et j6 $ ih (sqW (x5+1)) x5
   ·rw [hc]
    exact et w6 $ et j5 $ kl (jX x3 x1 x2 x4 o1.1 x6 o1.2 (dT o2 x0 o0 (sqW (x5+1)) [])) Z $ et j6 $ ih (sqW (x5+1)) x6
  ·rw [hc]
   exact et C1 $ et s5 $ hK0 x5 x6
theorem mB (k:Nat) (a0:Str) (o2:(List Str)) (x0:Int) (x1:Str) (x2:Int) (x3:(List b4)) (o0:(List Str)) (o1:Bool×(List a6))  (K0:Int→b4→Option (a8×Bool)) (Kst:X×St→Option (V×List V)) (hK0:∀ (y0:Int) (y1:b4),Kst (X.exit 5,(P2 o1.2 x1 x2 x3 y1 (Q8 o2 x0 o0 [(13,(I y0)),(212,(Bo false))])))=(K0 y0 y1).map G4) (hret:∀ s,Kst (X.ret,s)=P5 prog 284 [(Sr a0)] [] [.cell 2 26,.tmp 3] (X.ret,s)):
  ∀ (m:Nat) (x4:Int) (x5:b4),(L6 (C5 prog (EV k) yL k EF) m (P2 o1.2 x1 x2 x3 x5 (Q8 o2 x0 o0 [(13,(I x4))]))).bind Kst=(I3 o0 o1 K0 m x4 x5).map G4:=by
 intro m
 induction m with
 | zero=>intros; rfl
 | succ m ih=>
  intro x4 x5
  unfold I3
  refine et A6 $ et d4 $ krp AP Z (P2 o1.2 x1 x2 x3 x5 (Q8 o2 x0 o0 [(13,(I x4)),(212,(Bo (decide (x4 < (o1.2.length:Int)))))])) ?_ ?_
  ·exact rd 3 [(208,(I x4)),(209,(V.ptr 4 0 2)),(210,(aL 0 a7 o1.2))] Z Z $ rl Z (fB (e:=a7) Z Z Z Z Z Z underlying23) $ b7 Z
  refine kc Z Z (fun hc=>?_) fun hc=>?_
  ·rw [hc]
   refine et l6 $ et (l5 Z) $ kd AQ Z (fun (o3:Bool)=>(P2 o1.2 x1 x2 x3 x5 (Q8 o2 x0 o0 [(13,(I x4)),(224,(Bo o3))]))) ?_ fun o3=>?_
   ·refine et (k0 (p:=10) (dk:=true) (t:=(Q8 o2 x0 o0 [(13,(I x4)),(212,(Bo true))])) (σ:=(Cw o1.2 x1 x2 x3 x5)) (n:=284) Z (by decide) (by decide) Z) $ et (m8 (m:=3) (j:=3) (t':=(Q8 o2 x0 o0 [(13,(I x4)),(212,(Bo true)),(215,(V.ptr 4 0 2)),(216,(aL 0 a7 o1.2)),(217,(I x4))])) Z Z Z) $ et (b5 (x:=(inB o1.2.length x4)) (w:=fun v0=>(V.ptr 0 (0+x4.toNat) 0)) Z Z Z Z Z (de (e:=a7) Z Z Z underlying23 Z Z (by decide))) $ j3 fun v0=>et (c8 (m:=1) (j:=5) (t':=(Q8 o2 x0 o0 [(13,(I x4)),(212,(Bo true)),(215,(V.ptr 4 0 2)),(216,(aL 0 a7 o1.2)),(217,(I x4)),(218,(V.ptr 0 (0+x4.toNat) 0)),(219,(V.ptr 0 (0+x4.toNat) 0))])) Z Z Z) $ et (b5 (x:=(o1.2[0+x4.toNat]?)) (w:=fun v1=>(Sr v1.fName)) Z Z Z Z Z (fC (e:=a7) (part:=fun a=>(Sr a.fName)) Z Z Z (fun _=>rfl))) ?_
    exact j3 fun v1=>et (c8 (m:=1) (j:=7) (t':=(Q8 o2 x0 o0 [(13,(I x4)),(212,(Bo true)),(215,(V.ptr 4 0 2)),(216,(aL 0 a7 o1.2)),(217,(I x4)),(218,(V.ptr 0 (0+x4.toNat) 0)),(219,(V.ptr 0 (0+x4.toNat) 0)),(220,(Sr v1.fName)),(221,(sS o0))])) Z Z Z) $ et (b5 (x:=(idx o0 2)) (w:=fun v2=>(Pr (Sr v2))) Z Z Z Z Z (j7 (e:=V.str) Z Z Z underlying41 Z (by decide))) $ j3 fun v2=>u0 Z
   refine kcl Z Z (fun hc=>?_) fun hc=>?_
   ·rw [hc]
    exact kl (P2 o1.2 x1 x2 x3 { x5 with fType:=x4 } (Q8 o2 x0 o0 [(13,(I x4))])) Z $ et j5 $ kl (P2 o1.2 x1 x2 x3 { x5 with fType:=x4 } (Q8 o2 x0 o0 [(13,(I (sqW (x4+1))))])) Z $ et j6 $ ih (sqW (x4+1)) { x5 with fType:=x4 }
   ·rw [hc]
    exact et w6 $ et j5 $ kl (P2 o1.2 x1 x2 x3 x5 (Q8 o2 x0 o0 [(13,(I (sqW (x4+1))))])) Z $ et j6 $ ih (sqW (x4+1)) x5
  ·rw [hc]
   exact et C1 $ et s5 $ hK0 x4 x5
theorem mC (k:Nat) (a0:Str) (o2:(List Str)) (x0:Int) (x1:Str) (x2:Int) (x3:(List b4)) (o0:(List Str)) (o1:Bool×(List a6))  (K0:Int→b4→Option (a8×Bool)) (Kst:X×St→Option (V×List V)) (hK0:∀ (y0:Int) (y1:b4),Kst (X.exit 7,(P2 o1.2 x1 x2 x3 y1 (Q8 o2 x0 o0 [(14,(I y0)),(241,(Bo false))])))=(K0 y0 y1).map G4) (hret:∀ s,Kst (X.ret,s)=P5 prog 284 [(Sr a0)] [] [.cell 2 26,.tmp 3] (X.ret,s)):
  ∀ (m:Nat) (x4:Int) (x5:b4),(L6 (C5 prog (EV k) yL k EG) m (P2 o1.2 x1 x2 x3 x5 (Q8 o2 x0 o0 [(14,(I x4))]))).bind Kst=(F1 o0 o1 K0 m x4 x5).map G4:=by
 intro m
 induction m with
 | zero=>intros; rfl
 | succ m ih=>
  intro x4 x5
  unfold F1
  refine et A6 $ et d4 $ kga AR Z (fun (o3:Bool)=>[(241,(Bo o3))]) ?_ fun o3=>?_
  ·refine rd 4 [(227,(V.ptr 12 0 1)),(228,(I x5.fType)),(229,(Bo (decide (x5.fType ≥ 0)))),(230,(Bo (decide (x5.fType ≥ 0))))] Z Z $ w8 (fun hc=>?_) fun hc=>?_
   ·rw [hc]
    exact rd 9 [(231,(I x4)),(232,(V.ptr 4 0 2)),(233,(aL 0 a7 o1.2)),(234,(V.ptr 12 0 1)),(235,(I x5.fType))] Z Z $ rp Z (de (e:=a7) Z Z Z underlying23 Z Z (by decide)) fun v0=>bd 11 [(236,(V.ptr 0 (0+x5.fType.toNat) 0)),(237,(V.ptr 0 (0+x5.fType.toNat) 4))] Z Z $ rp Z (fC (e:=a7) (part:=fun a=>(j4 a.fFields)) Z Z Z (fun _=>rfl)) fun v1=>bd 12 [(238,(j4 v1.fFields))] Z Z $ rl Z (A8 (e:=d9) Z Z Z Z Z Z underlying50) $ b7 Z
   ·rw [hc]
    exact d8 Z
  refine kc Z Z (fun hc=>?_) fun hc=>?_
  ·rw [hc]
   refine et l6 $ et (l5 Z) $ kd AU Z (fun (o4:Bool)=>(P2 o1.2 x1 x2 x3 x5 (Q8 o2 x0 o0 [(14,(I x4)),(258,(Bo o4))]))) ?_ fun o4=>?_
   ·refine et (k0 (p:=15) (dk:=true) (t:=(Q8 o2 x0 o0 [(14,(I x4)),(241,(Bo true))])) (σ:=(Cw o1.2 x1 x2 x3 x5)) (n:=284) Z (by decide) (by decide) Z) $ et (m8 (m:=4) (j:=4) (t':=(yk o2 x0 o0 x4 o1.2 x5.fType [])) Z Z Z) $ et (b5 (x:=(inB o1.2.length x5.fType)) (w:=fun v2=>(V.ptr 0 (0+x5.fType.toNat) 0)) Z Z Z Z Z (de (e:=a7) Z Z Z underlying23 Z Z (by decide))) $ j3 fun v2=>et (c8 (m:=1) (j:=6) (t':=(yk o2 x0 o0 x4 o1.2 x5.fType [(248,(V.ptr 0 (0+x5.fType.toNat) 0)),(249,(V.ptr 0 (0+x5.fType.toNat) 4))])) Z Z Z) $ et (b5 (x:=(o1.2[0+x5.fType.toNat]?)) (w:=fun v3=>(j4 v3.fFields)) Z Z Z Z Z (fC (e:=a7) (part:=fun a=>(j4 a.fFields)) Z Z Z (fun _=>rfl))) ?_
    exact j3 fun v3=>et (c8 (m:=1) (j:=8) (t':=(yk o2 x0 o0 x4 o1.2 x5.fType [(248,(V.ptr 0 (0+x5.fType.toNat) 0)),(249,(V.ptr 0 (0+x5.fType.toNat) 4)),(250,(j4 v3.fFields)),(251,(I x4))])) Z Z Z) $ et (b5 (x:=(idx v3.fFields x4)) (w:=fun v4=>(Pr (d9 v4))) Z Z Z Z Z (j7 (e:=d9) Z Z Z underlying50 Z (by decide))) $ j3 fun v4=>et (c8 (m:=3) (j:=12) (t':=(yk o2 x0 o0 x4 o1.2 x5.fType [(248,(V.ptr 0 (0+x5.fType.toNat) 0)),(249,(V.ptr 0 (0+x5.fType.toNat) 4)),(250,(j4 v3.fFields)),(251,(I x4)),(252,(Pr (d9 v4))),(253,(Pr (Sr v4.fName))),(254,(Sr v4.fName)),(255,(sS o0))])) Z Z Z) $ et (b5 (x:=(idx o0 3)) (w:=fun v5=>(Pr (Sr v5))) Z Z Z Z Z (j7 (e:=V.str) Z Z Z underlying41 Z (by decide))) $ j3 fun v5=>u0 Z
   refine kcl Z Z (fun hc=>?_) fun hc=>?_
   ·rw [hc]
    exact kl (P2 o1.2 x1 x2 x3 { x5 with fField:=x4 } (Q8 o2 x0 o0 [(14,(I x4))])) Z $ et j5 $ kl (P2 o1.2 x1 x2 x3 { x5 with fField:=x4 } (Q8 o2 x0 o0 [(14,(I (sqW (x4+1))))])) Z $ et j6 $ ih (sqW (x4+1)) { x5 with fField:=x4 }
   ·rw [hc]
    exact et w6 $ et j5 $ kl (P2 o1.2 x1 x2 x3 x5 (Q8 o2 x0 o0 [(14,(I (sqW (x4+1))))])) Z $ et j6 $ ih (sqW (x4+1)) x5
  ·rw [hc]
   exact et C1 $ et s5 $ hK0 x4 x5
theorem mz (k:Nat) (a0:Str) (o2:(List Str))  (K0:Int→Str→Int→(List a6)→(List b4)→Option (a8×Bool)) (Kst:X×St→Option (V×List V)) (hK0:∀ (y0:Int) (y1:Str) (y2:Int) (y3:(List a6)) (y4:(List b4)),Kst (X.exit 0,(T3 y1 y2 y3 y4 (H4 o2 y0 [(23,(Bo false))])))=(K0 y0 y1 y2 y3 y4).map G4) (hret:∀ s,Kst (X.ret,s)=P5 prog 284 [(Sr a0)] [] [.cell 2 26,.tmp 3] (X.ret,s)):
  ∀ (m:Nat) (x0:Int) (x1:Str) (x2:Int) (x3:(List a6)) (x4:(List b4)),(L6 (C5 prog (EV k) yL k EH) m (T3 x1 x2 x3 x4 (H4 o2 x0 []))).bind Kst=(m0 k o2 K0 m x0 x1 x2 x3 x4).map G4:=by
 intro m
 induction m with
 | zero=>intros; rfl
 | succ m ih=>
  intro x0 x1 x2 x3 x4
  unfold m0
  refine et A6 $ et d4 $ krp Ez Z (T3 x1 x2 x3 x4 (H4 o2 x0 [(23,(Bo (decide (x0 < (sqW ((o2.length:Int) - 1))))))])) ?_ ?_
  ·exact rd 2 [(19,(I x0)),(20,(sS o2))] Z Z $ rl Z (A8 (e:=V.str) Z Z Z Z Z Z underlying41) $ b7 Z
  refine kc Z Z (fun hc=>?_) fun hc=>?_
  ·rw [hc]
   refine et l6 $ et (l5 Z) $ kg EA Z (fun (o0:(List Str))=>(T3 x1 x2 x3 x4 (Q7 o2 x0 o0 []))) (rd 2 [(26,(sS o2)),(27,(I x0))] Z Z $ rp Z (j7 (e:=V.str) Z Z Z underlying41 Z (by decide)) fun v0=>bd 4 [(28,(Pr (Sr v0))),(29,(Sr v0))] Z Z $ rs Z (j9 Z Z Z Z Z (lb k v0 32) (.inl Z)) fun v1=>b7 Z) fun o0=>et (Q0 Z) $ kga EC Z (fun (o1:Bool)=>[(32,(Bo o1))]) ?_ fun o1=>?_
   ·refine rd 1 [(33,(sS o0))] Z Z $ rp Z (j7 (e:=V.str) Z Z Z underlying41 Z (by decide)) fun v2=>bd 5 [(34,(Pr (Sr v2))),(35,(Sr v2)),(36,(Bo (v2 == ([68,66,68]:Str)))),(37,(Bo (v2 == ([68,66,68]:Str))))] Z Z $ w8 (fun hc=>?_) fun hc=>?_
    ·rw [hc]
     refine rd 6 [(38,(sS o0))] Z Z $ rl Z (A8 (e:=V.str) Z Z Z Z Z Z underlying41) $ bd 10 [(39,(I (o0.length:Int))),(40,(Bo ((o0.length:Int) == 3))),(41,(Bo ((o0.length:Int) == 3))),(42,(Bo ((o0.length:Int) == 3)))] Z Z $ w8 (fun hc=>?_) fun hc=>?_
     ·rw [hc]
      exact d8 Z
     ·rw [hc]
      exact d8 Z
    ·rw [hc]
     exact d8 Z
   refine kcl Z Z (fun hc=>?_) fun hc=>?_
   ·rw [hc]
    exact kg ED Z (fun (o3:Str)=>(T3 o3 x2 x3 x4 (Q7 o2 x0 o0 []))) (rd 1 [(46,(sS o0))] Z Z $ rs Z (j7 (e:=V.str) Z Z Z underlying41 Z (by decide)) fun v3=>b7 Z) fun o3=>kgl Au Z (fun (o4:Int)=>(T3 o3 o4 x3 x4 (H4 o2 x0 []))) (rd 1 [(51,(sS o0))] Z Z $ rp Z (j7 (e:=V.str) Z Z Z underlying41 Z (by decide)) fun v4=>bd 3 [(52,(Pr (Sr v4))),(53,(Sr v4))] Z Z $ rp Z (j9 Z Z Z Z Z (U8 k v4) (.inl Z)) fun v5=>b7 Z) fun o4=>et j5 $ et w6 $ et j5 $ kl (T3 o3 o4 x3 x4 (H4 o2 (sqW (x0+1)) [])) Z $ et j6 $ ih (sqW (x0+1)) o3 o4 x3 x4
   ·rw [hc]
    refine kg Av Z (fun (o5:Bool)=>(T3 x1 x2 x3 x4 (Q7 o2 x0 o0 [(58,(Bo o5))]))) ?_ fun o5=>?_
    ·refine rd 1 [(59,(sS o0))] Z Z $ rp Z (j7 (e:=V.str) Z Z Z underlying41 Z (by decide)) fun v6=>bd 5 [(60,(Pr (Sr v6))),(61,(Sr v6)),(62,(Bo (v6 == ([83,69,71,77]:Str)))),(63,(Bo (v6 == ([83,69,71,77]:Str))))] Z Z $ w8 (fun hc=>?_) fun hc=>?_
     ·rw [hc]
      exact rd 6 [(64,(sS o0))] Z Z $ rl Z (A8 (e:=V.str) Z Z Z Z Z Z underlying41) $ b7 Z
     ·rw [hc]
      exact d8 Z
    refine kcl Z Z (fun hc=>?_) fun hc=>?_
    ·rw [hc]
     refine kd Aw Z (fun (o6:Str×Bool)=>⟨(Q7 o2 x0 o0 [(8,(Pt 8))]),[(2,⟨false,4,[(V.agg [(Sr []),(I 0),(V.sl 2 8 (List.map d7 ([]:List a6))),(V.sl 2 4 (List.map b8 ([]:List b4)))])]⟩),(4,⟨false,4,[(V.agg [(Sr x1),(I x2),(V.sl 3 8 (List.map a7 x3)),(V.sl 1 4 (List.map b8 x4))])]⟩),(8,⟨false,8,[(V.agg [(Sr o6.1),(I (-1)),(I 0),(I 0),(V.sl 5 3 (List.map d9 ([]:List b6))),(I (-1)),(Bo false),(Bo o6.2)])]⟩)],284⟩) (et (k0 (p:=9) (dk:=true) (t:=(Q7 o2 x0 o0 [(58,(Bo true))])) (σ:=(Ct x1 x2 x3 x4)) (n:=284) Z (by decide) (by decide) Z) $ et (m8 (m:=1) (j:=1) (t':=(Q7 o2 x0 o0 [(58,(Bo true)),(68,(sS o0))])) Z Z Z) $ et (b5 (x:=(idx o0 1)) (w:=fun v7=>(Pr (Sr v7))) Z Z Z Z Z (j7 (e:=V.str) Z Z Z underlying41 Z (by decide))) $ j3 fun v7=>et (c8 (m:=2) (j:=4) (t':=(Q7 o2 x0 o0 [(58,(Bo true)),(68,(sS o0)),(69,(Pr (Sr v7))),(70,(Sr v7)),(71,(sS o0))])) Z Z Z) $ et (b5 (x:=(idx o0 5)) (w:=fun v8=>(Pr (Sr v8))) Z Z Z Z Z (j7 (e:=V.str) Z Z Z underlying41 Z (by decide))) $ j3 fun v8=>u0 Z) fun o6=>et d4 $ krp Ax Z (tt x3 x1 x2 x4 o6.1 o6.2 (Q7 o2 x0 o0 [(8,(Pt 8)),(9,(I 0))])) ?_ ?_
     ·exact et (J9 (x:=some ()) (st1:=(tt x3 x1 x2 x4 o6.1 o6.2 (Q7 o2 x0 o0 [(8,(Pt 8))]))) (w:=fun _=>((I 0),(tt x3 x1 x2 x4 o6.1 o6.2 (Q7 o2 x0 o0 [(8,(Pt 8))])))) (u:=fun _=>(tt x3 x1 x2 x4 o6.1 o6.2 (Q7 o2 x0 o0 [(8,(Pt 8)),(9,(I 0))]))) Z Z Z Z Z Z Z Z (fun _=>rfl)) $ et x9 $ d8 Z
     refine et (l5 Z) $ et B0 ?_
     refine mA k a0 o2 x0 x1 x2 x3 x4 o0 o6 _ _ ?h_ref11_read_L2_0 ?hr_ref11_read_L2 k 0 (-1)
     ·intro y5 y6
      refine et r9 $ kg AA Z (fun (o7:Int)=>⟨(Q7 o2 x0 o0 [(8,(Pt 8))]),[(2,⟨false,4,[(V.agg [(Sr []),(I 0),(V.sl 2 8 (List.map d7 ([]:List a6))),(V.sl 2 4 (List.map b8 ([]:List b4)))])]⟩),(4,⟨false,4,[(V.agg [(Sr x1),(I x2),(V.sl 3 8 (List.map a7 x3)),(V.sl 1 4 (List.map b8 x4))])]⟩),(8,⟨false,8,[(V.agg [(Sr o6.1),(I y6),(I o7),(I 0),(V.sl 5 3 (List.map d9 ([]:List b6))),(I (-1)),(Bo false),(Bo o6.2)])]⟩)],284⟩) (et (J9 (x:=some ()) (st1:=⟨(dT o2 x0 o0 y5 [(80,(Bo false))]),(Cx x1 x2 x3 x4 o6.1 y6 o6.2),284⟩) (w:=fun _=>((sS o0),⟨(dT o2 x0 o0 y5 [(80,(Bo false))]),(Cx x1 x2 x3 x4 o6.1 y6 o6.2),284⟩)) (u:=fun _=>⟨(dT o2 x0 o0 y5 [(80,(Bo false)),(96,(sS o0))]),(Cx x1 x2 x3 x4 o6.1 y6 o6.2),284⟩) Z Z Z Z Z Z (gh2 (P7 Z Z Z Z Z)) Z (fun _=>rfl)) $ et x9 $ rp Z (j7 (e:=V.str) Z Z Z underlying41 Z (by decide)) fun v9=>bd 3 [(97,(Pr (Sr v9))),(98,(Sr v9))] Z Z $ rp Z (j9 Z Z Z Z Z (U8 k v9) (.inl Z)) fun va=>b7 Z) fun o7=>kg AB Z (fun (o8:Int)=>⟨(H4 o2 x0 [(8,(Pt 8))]),(Hn x1 x2 x3 x4 o6.1 y6 o7 o8 o6.2),284⟩) (rd 1 [(104,(sS o0))] Z Z $ rp Z (j7 (e:=V.str) Z Z Z underlying41 Z (by decide)) fun vb=>bd 3 [(105,(Pr (Sr vb))),(106,(Sr vb))] Z Z $ rp Z (j9 Z Z Z Z Z (U8 k vb) (.inl Z)) fun vc=>b7 Z) fun o8=>kgl AC Z (fun (o9:(List a6))=>(T3 x1 x2 o9 x4 (H4 o2 x0 []))) (rdN 1 [(111,(V.ptr 4 0 2))] Z Z $ et (z6 (x:=some ()) (w:=fun _=>((V.sl 3 8 (List.map a7 x3)),_)) Z Z Z Z (ta Z Z Z Z Z Z)) $ et x9 $ baN 0 2 ⟨(H4 o2 x0 [(8,(Pt 8)),(111,(V.ptr 4 0 2)),(112,(V.sl 3 8 (List.map a7 x3)))]),[(2,⟨false,4,[(V.agg [(Sr []),(I 0),(V.sl 2 8 (List.map d7 ([]:List a6))),(V.sl 2 4 (List.map b8 ([]:List b4)))])]⟩),(4,⟨false,4,[(V.agg [(Sr x1),(I x2),(V.strip1 (V.sl 3 8 (List.map a7 x3))),(V.sl 1 4 (List.map b8 x4))])]⟩),(8,⟨false,8,[(V.agg [(Sr o6.1),(I y6),(I o7),(I o8),(V.sl 5 3 (List.map d9 ([]:List b6))),(I (-1)),(Bo false),(Bo o6.2)])]⟩)],284⟩ rfl Z Z $ rdN 3 [(113,(V.agg [(Sr o6.1),(I y6),(I o7),(I o8),(V.sl 5 3 (List.map d9 ([]:List b6))),(I (-1)),(Bo false),(Bo o6.2)]))] Z Z $ rdN 4 [(114,(V.sl 0 8 [(V.agg [(Sr o6.1),(I y6),(I o7),(I o8),(V.sl 5 3 (List.map d9 ([]:List b6))),(I (-1)),(Bo false),(Bo o6.2)])]))] Z Z $ et (z6 (x:=(app x3 [({ fName:=o6.1,fParent:=y6,fMin:=o7,fSize:=o8,fFields:=([]:List b6),fKey:=(-1),fUnique:=false,fLast:=o6.2 }:a6)])) (w:=fun vd=>((V.sl 3 8 (List.map a7 vd)),_)) Z Z Z Z (wW (e:=a7) (l:=x3) (m:=[({ fName:=o6.1,fParent:=y6,fMin:=o7,fSize:=o8,fFields:=([]:List b6),fKey:=(-1),fUnique:=false,fLast:=o6.2 }:a6)]) Z Z Z Z Z Z Z Z Z Z Z Z)) $ j3 fun vd=>baN 1 6 ⟨(H4 o2 x0 [(8,(Pt 8)),(111,(V.ptr 4 0 2)),(112,(V.strip1 (V.sl 3 8 (List.map a7 x3)))),(113,(V.agg [(Sr o6.1),(I y6),(I o7),(I o8),(V.sl 5 3 (List.map d9 ([]:List b6))),(I (-1)),(Bo false),(Bo o6.2)])),(114,(V.sl 0 8 [(V.agg [(Sr o6.1),(I y6),(I o7),(I o8),(V.sl 5 3 (List.map d9 ([]:List b6))),(I (-1)),(Bo false),(Bo o6.2)])])),(115,(V.sl 3 8 (List.map a7 vd))),(116,(V.ptr 4 0 2))]),[(2,⟨false,4,[(V.agg [(Sr []),(I 0),(V.sl 2 8 (List.map d7 ([]:List a6))),(V.sl 2 4 (List.map b8 ([]:List b4)))])]⟩),(4,⟨false,4,[(V.agg [(Sr x1),(I x2),(V.strip1 (V.sl 3 8 (List.map a7 x3))),(V.sl 1 4 (List.map b8 x4))])]⟩),(8,⟨false,8,[(V.agg [(Sr o6.1),(I y6),(I o7),(I o8),(V.sl 5 3 (List.map d9 ([]:List b6))),(I (-1)),(Bo false),(Bo o6.2)])]⟩)],284⟩ rfl Z Z $ raN 1 7 ⟨(H4 o2 x0 [(8,(Pt 8)),(111,(V.ptr 4 0 2)),(112,(V.strip1 (V.sl 3 8 (List.map a7 x3)))),(113,(V.agg [(Sr o6.1),(I y6),(I o7),(I o8),(V.sl 5 3 (List.map d9 ([]:List b6))),(I (-1)),(Bo false),(Bo o6.2)])),(114,(V.sl 0 8 [(V.agg [(Sr o6.1),(I y6),(I o7),(I o8),(V.sl 5 3 (List.map d9 ([]:List b6))),(I (-1)),(Bo false),(Bo o6.2)])])),(115,(V.strip1 (V.sl 3 8 (List.map a7 vd)))),(116,(V.ptr 4 0 2))]),(Hn x1 x2 vd x4 o6.1 y6 o7 o8 o6.2),284⟩ rfl Z Z $ pN Z) fun o9=>?_
      exact et j5 $ et w6 $ et j5 $ kl (T3 x1 x2 o9 x4 (H4 o2 (sqW (x0+1)) [])) Z $ et j6 $ ih (sqW (x0+1)) x1 x2 o9 x4
     ·intro s; exact hret s
    ·rw [hc]
     refine kg AD Z (fun (oa:Bool×(List a6))=>(pT oa.2 x1 x2 x4 (Q7 o2 x0 o0 [(117,(Bo oa.1))]))) ?_ fun oa=>?_
     ·refine et (J9 (x:=some ()) (st1:=(pT x3 x1 x2 x4 (Q7 o2 x0 o0 [(58,(Bo false))]))) (w:=fun _=>((sS o0),(pT x3 x1 x2 x4 (Q7 o2 x0 o0 [(58,(Bo false))])))) (u:=fun _=>(pT x3 x1 x2 x4 (Q7 o2 x0 o0 [(58,(Bo false)),(118,(sS o0))]))) Z Z Z Z Z Z Z Z (fun _=>rfl)) $ et x9 $ rp Z (j7 (e:=V.str) Z Z Z underlying41 Z (by decide)) fun ve=>bd 5 [(119,(Pr (Sr ve))),(120,(Sr ve)),(121,(Bo (ve == ([70,73,69,76,68]:Str)))),(122,(Bo (ve == ([70,73,69,76,68]:Str))))] Z Z $ w8 (fun hc=>?_) fun hc=>?_
      ·rw [hc]
       refine rd 6 [(123,(sS o0))] Z Z $ rl Z (A8 (e:=V.str) Z Z Z Z Z Z underlying41) $ bd 10 [(124,(I (o0.length:Int))),(125,(Bo ((o0.length:Int) == 5))),(126,(Bo ((o0.length:Int) == 5))),(127,(Bo ((o0.length:Int) == 5)))] Z Z $ w8 (fun hc=>?_) fun hc=>?_
       ·rw [hc]
        exact rd 12 [(128,(V.ptr 4 0 2)),(129,(aL 0 a7 x3))] Z Z $ rl Z (fB (e:=a7) Z Z Z Z Z Z underlying23) $ b7 Z
       ·rw [hc]
        exact d8 Z
      ·rw [hc]
       exact d8 Z
     refine kcl Z Z (fun hc=>?_) fun hc=>?_
     ·rw [hc]
      refine kg AF Z (fun (ob:a6×Str×Int×Int×Int×(List b6)×Int×Bool×Bool)=>⟨(Q7 o2 x0 o0 [(10,(Pt 10))]),[(0,⟨true,8,(List.map a7 oa.2).set (0+(sqW ((oa.2.length:Int) - 1)).toNat) (d7 ob.1)⟩),(2,⟨false,4,[(V.agg [(Sr []),(I 0),(V.sl 2 8 (List.map d7 ([]:List a6))),(V.sl 2 4 (List.map b8 ([]:List b4)))])]⟩),(4,⟨false,4,[(V.agg [(Sr x1),(I x2),(aL 0 a7 oa.2),(V.sl 1 4 (List.map b8 x4))])]⟩),(10,⟨false,8,[(V.agg [(Sr ob.2.1),(I ob.2.2.1),(I ob.2.2.2.1),(I ob.2.2.2.2.1),(V.sl 1 3 (List.map d9 ob.2.2.2.2.2.1)),(I ob.2.2.2.2.2.2.1),(Bo ob.2.2.2.2.2.2.2.1),(Bo ob.2.2.2.2.2.2.2.2)])]⟩)],284⟩) ?_ fun ob=>?_
      ·refine rd 4 [(133,(V.ptr 4 0 2)),(134,(aL 0 a7 oa.2)),(135,(V.ptr 4 0 2)),(136,(aL 0 a7 oa.2))] Z Z $ rl Z (fB (e:=a7) Z Z Z Z Z Z underlying23) $ bd 6 [(137,(I (oa.2.length:Int))),(138,(I (sqW ((oa.2.length:Int) - 1))))] Z Z $ rp Z (de (e:=a7) Z Z Z underlying23 Z Z (by decide)) fun vf=>bd 7 [(139,(V.ptr 0 (0+(sqW ((oa.2.length:Int) - 1)).toNat) 0))] Z Z $ et (z6 (x:=(oa.2[0+(sqW ((oa.2.length:Int) - 1)).toNat]?)) (w:=fun vg=>((V.agg [(Sr vg.fName),(I vg.fParent),(I vg.fMin),(I vg.fSize),(V.sl 1 3 (List.map d9 vg.fFields)),(I vg.fKey),(Bo vg.fUnique),(Bo vg.fLast)]),_)) Z Z Z Z (xS (e:=a7) (e':=d7) (part:=a7) Z Z Z Z (fun _=>rfl) (fun _=>rfl))) ?_
       exact j3 fun vg=>b7 Z
      refine kg AG Z (fun (oc:b6)=>⟨(Q7 o2 x0 o0 [(10,(Pt 10)),(11,(Pt 11))]),[(0,⟨true,8,(List.map a7 oa.2).set (0+(sqW ((oa.2.length:Int) - 1)).toNat) (d7 ob.1)⟩),(2,⟨false,4,[(V.agg [(Sr []),(I 0),(V.sl 2 8 (List.map d7 ([]:List a6))),(V.sl 2 4 (List.map b8 ([]:List b4)))])]⟩),(4,⟨false,4,[(V.agg [(Sr x1),(I x2),(aL 0 a7 oa.2),(V.sl 1 4 (List.map b8 x4))])]⟩),(10,⟨false,8,[(V.agg [(Sr ob.2.1),(I ob.2.2.1),(I ob.2.2.2.1),(I ob.2.2.2.2.1),(V.sl 1 3 (List.map d9 ob.2.2.2.2.2.1)),(I ob.2.2.2.2.2.2.1),(Bo ob.2.2.2.2.2.2.2.1),(Bo ob.2.2.2.2.2.2.2.2)])]⟩),(11,vS 3 (d9 oc))],284⟩) (rd 1 [(141,(sS o0))] Z Z $ rp Z (j7 (e:=V.str) Z Z Z underlying41 Z (by decide)) fun vh=>b7 Z) fun oc=>kg AH Z (fun (od:b6)=>⟨(Q7 o2 x0 o0 [(10,(Pt 10)),(11,(Pt 11))]),[(0,⟨true,8,(List.map a7 oa.2).set (0+(sqW ((oa.2.length:Int) - 1)).toNat) (d7 ob.1)⟩),(2,⟨false,4,[(V.agg [(Sr []),(I 0),(V.sl 2 8 (List.map d7 ([]:List a6))),(V.sl 2 4 (List.map b8 ([]:List b4)))])]⟩),(4,⟨false,4,[(V.agg [(Sr x1),(I x2),(aL 0 a7 oa.2),(V.sl 1 4 (List.map b8 x4))])]⟩),(10,⟨false,8,[(V.agg [(Sr ob.2.1),(I ob.2.2.1),(I ob.2.2.2.1),(I ob.2.2.2.2.1),(V.sl 1 3 (List.map d9 ob.2.2.2.2.2.1)),(I ob.2.2.2.2.2.2.1),(Bo ob.2.2.2.2.2.2.2.1),(Bo ob.2.2.2.2.2.2.2.2)])]⟩),(11,vS 3 (d9 od))],284⟩) (rd 1 [(146,(sS o0))] Z Z $ rp Z (j7 (e:=V.str) Z Z Z underlying41 Z (by decide)) fun vi=>bd 3 [(147,(Pr (Sr vi))),(148,(Sr vi))] Z Z $ rp Z (j9 Z Z Z Z Z (U8 k vi) (.inl Z)) fun vj=>b7 Z) fun od=>kg AJ Z (fun (oe:b6)=>⟨(Q7 o2 x0 o0 [(10,(Pt 10)),(11,(Pt 11))]),[(0,⟨true,8,(List.map a7 oa.2).set (0+(sqW ((oa.2.length:Int) - 1)).toNat) (d7 ob.1)⟩),(2,⟨false,4,[(V.agg [(Sr []),(I 0),(V.sl 2 8 (List.map d7 ([]:List a6))),(V.sl 2 4 (List.map b8 ([]:List b4)))])]⟩),(4,⟨false,4,[(V.agg [(Sr x1),(I x2),(aL 0 a7 oa.2),(V.sl 1 4 (List.map b8 x4))])]⟩),(10,⟨false,8,[(V.agg [(Sr ob.2.1),(I ob.2.2.1),(I ob.2.2.2.1),(I ob.2.2.2.2.1),(V.sl 1 3 (List.map d9 ob.2.2.2.2.2.1)),(I ob.2.2.2.2.2.2.1),(Bo ob.2.2.2.2.2.2.2.1),(Bo ob.2.2.2.2.2.2.2.2)])]⟩),(11,vS 3 (d9 oe))],284⟩) (rd 1 [(154,(sS o0))] Z Z $ rp Z (j7 (e:=V.str) Z Z Z underlying41 Z (by decide)) fun vk=>bd 3 [(155,(Pr (Sr vk))),(156,(Sr vk))] Z Z $ rp Z (j9 Z Z Z Z Z (U8 k vk) (.inl Z)) fun vl=>b7 Z) fun oe=>et d4 $ kga AK Z (fun (of:Bool)=>[(170,(Bo of))]) ?_ fun of=>?_
      ·refine rd 1 [(161,(sS o0))] Z Z $ rp Z (j7 (e:=V.str) Z Z Z underlying41 Z (by decide)) fun vm=>bd 5 [(162,(Pr (Sr vm))),(163,(Sr vm)),(164,(Bo (vm == ([85]:Str)))),(165,(Bo (vm == ([85]:Str))))] Z Z $ w8 (fun hc=>?_) fun hc=>?_
       ·rw [hc]
        exact d8 Z
       ·rw [hc]
        exact rd 6 [(166,(sS o0))] Z Z $ rp Z (j7 (e:=V.str) Z Z Z underlying41 Z (by decide)) fun vn=>b7 Z
      refine kc Z Z (fun hc=>?_) fun hc=>?_
      ·rw [hc]
       refine et d4 $ krp AL Z ⟨(Q7 o2 x0 o0 [(10,(Pt 10)),(11,(Pt 11))]),[(0,⟨true,8,(List.map a7 oa.2).set (0+(sqW ((oa.2.length:Int) - 1)).toNat) (d7 ob.1)⟩),(2,⟨false,4,[(V.agg [(Sr []),(I 0),(V.sl 2 8 (List.map d7 ([]:List a6))),(V.sl 2 4 (List.map b8 ([]:List b4)))])]⟩),(4,⟨false,4,[(V.agg [(Sr x1),(I x2),(aL 0 a7 oa.2),(V.sl 1 4 (List.map b8 x4))])]⟩),(10,⟨false,8,[(V.agg [(Sr ob.2.1),(I ob.2.2.1),(I ob.2.2.2.1),(I ob.2.2.2.2.1),(V.sl 1 3 (List.map d9 ob.2.2.2.2.2.1)),(I (ob.2.2.2.2.2.1.length:Int)),(Bo ob.2.2.2.2.2.2.2.1),(Bo ob.2.2.2.2.2.2.2.2)])]⟩),(11,vS 3 (d9 oe))],284⟩ ?_ ?_
       ·exact rd 2 [(171,(V.ptr 10 0 4)),(172,(j4 ob.2.2.2.2.2.1))] Z Z $ rl Z (A8 (e:=d9) Z Z Z Z Z Z underlying50) $ b7 Z
       refine kg AM Z (fun (og:Bool)=>⟨(H4 o2 x0 [(10,(Pt 10)),(11,(Pt 11))]),[(0,⟨true,8,(List.map a7 oa.2).set (0+(sqW ((oa.2.length:Int) - 1)).toNat) (d7 ob.1)⟩),(2,⟨false,4,[(V.agg [(Sr []),(I 0),(V.sl 2 8 (List.map d7 ([]:List a6))),(V.sl 2 4 (List.map b8 ([]:List b4)))])]⟩),(4,⟨false,4,[(V.agg [(Sr x1),(I x2),(aL 0 a7 oa.2),(V.sl 1 4 (List.map b8 x4))])]⟩),(10,⟨false,8,[(V.agg [(Sr ob.2.1),(I ob.2.2.1),(I ob.2.2.2.1),(I ob.2.2.2.2.1),(V.sl 1 3 (List.map d9 ob.2.2.2.2.2.1)),(I (ob.2.2.2.2.2.1.length:Int)),(Bo og),(Bo ob.2.2.2.2.2.2.2.2)])]⟩),(11,vS 3 (d9 oe))],284⟩) (rd 1 [(175,(sS o0))] Z Z $ rp Z (j7 (e:=V.str) Z Z Z underlying41 Z (by decide)) fun vo=>b7 Z) fun og=>kg wt Z (fun (oh:(List b6))=>⟨(H4 o2 x0 [(10,(Pt 10))]),[(0,⟨true,8,(List.map a7 oa.2).set (0+(sqW ((oa.2.length:Int) - 1)).toNat) (d7 ob.1)⟩),(2,⟨false,4,[(V.agg [(Sr []),(I 0),(V.sl 2 8 (List.map d7 ([]:List a6))),(V.sl 2 4 (List.map b8 ([]:List b4)))])]⟩),(4,⟨false,4,[(V.agg [(Sr x1),(I x2),(aL 0 a7 oa.2),(V.sl 1 4 (List.map b8 x4))])]⟩),(10,⟨false,8,[(V.agg [(Sr ob.2.1),(I ob.2.2.1),(I ob.2.2.2.1),(I ob.2.2.2.2.1),(V.sl 1 3 (List.map d9 oh)),(I (ob.2.2.2.2.2.1.length:Int)),(Bo og),(Bo ob.2.2.2.2.2.2.2.2)])]⟩)],284⟩) (ra 4 4 ⟨(H4 o2 x0 [(10,(Pt 10)),(11,(Pt 11)),(180,(V.ptr 10 0 4)),(181,(V.sl 1 3 (List.map d9 ob.2.2.2.2.2.1))),(182,(d9 oe)),(183,(j4 (([oe]:List b6))))]),[(0,⟨true,8,(List.map a7 oa.2).set (0+(sqW ((oa.2.length:Int) - 1)).toNat) (d7 ob.1)⟩),(2,⟨false,4,[(V.agg [(Sr []),(I 0),(V.sl 2 8 (List.map d7 ([]:List a6))),(V.sl 2 4 (List.map b8 ([]:List b4)))])]⟩),(4,⟨false,4,[(V.agg [(Sr x1),(I x2),(aL 0 a7 oa.2),(V.sl 1 4 (List.map b8 x4))])]⟩),(10,⟨false,8,[(V.agg [(Sr ob.2.1),(I ob.2.2.1),(I ob.2.2.2.1),(I ob.2.2.2.2.1),(j4 ob.2.2.2.2.2.1),(I (ob.2.2.2.2.2.1.length:Int)),(Bo og),(Bo ob.2.2.2.2.2.2.2.2)])]⟩),(11,vS 3 (d9 oe))],284⟩ rfl Z Z $ et (z6 (x:=(app ob.2.2.2.2.2.1 ([oe]:List b6))) (w:=fun vp=>((V.sl 1 3 (List.map d9 vp)),_)) Z Z Z Z (ga (e:=d9) Z Z Z Z Z Z Z Z Z Z (by decide))) $ s8 fun vp=>b7 Z) fun oh=>kgl wu Z (fun (oi:Unit)=>(T3 x1 x2 (oa.2.set (0+(sqW ((oa.2.length:Int) - 1)).toNat) ({ fName:=ob.2.1,fParent:=ob.2.2.1,fMin:=ob.2.2.2.1,fSize:=ob.2.2.2.2.1,fFields:=oh,fKey:=(ob.2.2.2.2.2.1.length:Int),fUnique:=og,fLast:=ob.2.2.2.2.2.2.2.2 }:a6)) x4 (H4 o2 x0 []))) ?_ fun oi=>?_
       ·refine rd 4 (Hv oa.2 []) Z Z $ rl Z (fB (e:=a7) Z Z Z Z Z Z underlying23) $ ba 2 7 ⟨(rO o2 x0 [(187,(aL 0 a7 oa.2)),(188,(V.ptr 4 0 2)),(189,(aL 0 a7 oa.2)),(190,(I (oa.2.length:Int))),(191,(I (sqW ((oa.2.length:Int) - 1)))),(192,(V.agg [(Sr ob.2.1),(I ob.2.2.1),(I ob.2.2.2.1),(I ob.2.2.2.2.1),(V.sl 1 3 (List.map d9 oh)),(I (ob.2.2.2.2.2.1.length:Int)),(Bo og),(Bo ob.2.2.2.2.2.2.2.2)]))]),[(0,⟨true,8,(List.map a7 oa.2).set (0+(sqW ((oa.2.length:Int) - 1)).toNat) (d7 ob.1)⟩),(2,⟨false,4,[(V.agg [(Sr []),(I 0),(V.sl 2 8 (List.map d7 ([]:List a6))),(V.sl 2 4 (List.map b8 ([]:List b4)))])]⟩),(4,⟨false,4,[(V.agg [(Sr x1),(I x2),(aL 0 a7 oa.2),(V.sl 1 4 (List.map b8 x4))])]⟩),(10,⟨false,8,[(d7 ({ fName:=ob.2.1,fParent:=ob.2.2.1,fMin:=ob.2.2.2.1,fSize:=ob.2.2.2.2.1,fFields:=oh,fKey:=(ob.2.2.2.2.2.1.length:Int),fUnique:=og,fLast:=ob.2.2.2.2.2.2.2.2 }:a6))]⟩)],284⟩ rfl Z Z $ rp Z (ur (l:=oa.2) (e:=a7) Z Z Z underlying23 Z Z (by decide)) fun vq=>bd 8 [(193,(V.ptr 0 (0+(sqW ((oa.2.length:Int) - 1)).toNat) 0))] Z Z $ et (J9 (x:=(oa.2[0+(sqW ((oa.2.length:Int) - 1)).toNat]?)) (w:=fun _=>(V.tup [],_)) (u:=fun _=>⟨(rO o2 x0 [(187,V.undef),(188,(V.ptr 4 0 2)),(189,V.undef),(190,(I (oa.2.length:Int))),(191,(I (sqW ((oa.2.length:Int) - 1)))),(192,(d7 ({ fName:=ob.2.1,fParent:=ob.2.2.1,fMin:=ob.2.2.2.1,fSize:=ob.2.2.2.2.1,fFields:=oh,fKey:=(ob.2.2.2.2.2.1.length:Int),fUnique:=og,fLast:=ob.2.2.2.2.2.2.2.2 }:a6))),(193,V.undef)]),(Ho x1 x2 (oa.2.set (0+(sqW ((oa.2.length:Int) - 1)).toNat) ({ fName:=ob.2.1,fParent:=ob.2.2.1,fMin:=ob.2.2.2.1,fSize:=ob.2.2.2.2.1,fFields:=oh,fKey:=(ob.2.2.2.2.2.1.length:Int),fUnique:=og,fLast:=ob.2.2.2.2.2.2.2.2 }:a6)) x4 ({ fName:=ob.2.1,fParent:=ob.2.2.1,fMin:=ob.2.2.2.1,fSize:=ob.2.2.2.2.1,fFields:=oh,fKey:=(ob.2.2.2.2.2.1.length:Int),fUnique:=og,fLast:=ob.2.2.2.2.2.2.2.2 }:a6)),284⟩) Z Z Z Z Z Z Z (pD (S:=(fun n_=>⟨(rO o2 x0 [(187,(V.aref 0 0 n_)),(188,(V.ptr 4 0 2)),(189,(V.aref 0 0 n_)),(190,(I (oa.2.length:Int))),(191,(I (sqW ((oa.2.length:Int) - 1)))),(192,(V.agg [(Sr ob.2.1),(I ob.2.2.1),(I ob.2.2.2.1),(I ob.2.2.2.2.1),(V.sl 1 3 (List.map d9 oh)),(I (ob.2.2.2.2.2.1.length:Int)),(Bo og),(Bo ob.2.2.2.2.2.2.2.2)])),(193,(V.ptr 0 (0+(sqW ((oa.2.length:Int) - 1)).toNat) 0))]),[(0,⟨true,8,(List.map a7 oa.2).set (0+(sqW ((oa.2.length:Int) - 1)).toNat) (d7 ob.1)⟩),(2,⟨false,4,[(V.agg [(Sr []),(I 0),(V.sl 2 8 (List.map d7 ([]:List a6))),(V.sl 2 4 (List.map b8 ([]:List b4)))])]⟩),(4,⟨false,4,[(V.agg [(Sr x1),(I x2),(V.aref 0 0 n_),(V.sl 1 4 (List.map b8 x4))])]⟩),(10,⟨false,8,[(d7 ({ fName:=ob.2.1,fParent:=ob.2.2.1,fMin:=ob.2.2.2.1,fSize:=ob.2.2.2.2.1,fFields:=oh,fKey:=(ob.2.2.2.2.2.1.length:Int),fUnique:=og,fLast:=ob.2.2.2.2.2.2.2.2 }:a6))]⟩)],284⟩)) (e:=a7) (l:=oa.2) (v:=({ fName:=ob.2.1,fParent:=ob.2.2.1,fMin:=ob.2.2.2.1,fSize:=ob.2.2.2.2.1,fFields:=oh,fKey:=(ob.2.2.2.2.2.1.length:Int),fUnique:=og,fLast:=ob.2.2.2.2.2.2.2.2 }:a6)) Z Z Z Z Z Z Z Z Z Z Z) (fun _=>gh1 Z (P7 Z Z Z Z Z))) ?_
        exact j3 fun vr=>d8 Z
       exact et j5 $ et w6 $ et j5 $ kl (T3 x1 x2 (oa.2.set (0+(sqW ((oa.2.length:Int) - 1)).toNat) ({ fName:=ob.2.1,fParent:=ob.2.2.1,fMin:=ob.2.2.2.1,fSize:=ob.2.2.2.2.1,fFields:=oh,fKey:=(ob.2.2.2.2.2.1.length:Int),fUnique:=og,fLast:=ob.2.2.2.2.2.2.2.2 }:a6)) x4 (H4 o2 (sqW (x0+1)) [])) Z $ et j6 $ ih (sqW (x0+1)) x1 x2 (oa.2.set (0+(sqW ((oa.2.length:Int) - 1)).toNat) ({ fName:=ob.2.1,fParent:=ob.2.2.1,fMin:=ob.2.2.2.1,fSize:=ob.2.2.2.2.1,fFields:=oh,fKey:=(ob.2.2.2.2.2.1.length:Int),fUnique:=og,fLast:=ob.2.2.2.2.2.2.2.2 }:a6)) x4
      ·rw [hc]
       refine et l6 $ kg wt Z (fun (oj:(List b6))=>⟨(H4 o2 x0 [(10,(Pt 10))]),[(0,⟨true,8,(List.map a7 oa.2).set (0+(sqW ((oa.2.length:Int) - 1)).toNat) (d7 ob.1)⟩),(2,⟨false,4,[(V.agg [(Sr []),(I 0),(V.sl 2 8 (List.map d7 ([]:List a6))),(V.sl 2 4 (List.map b8 ([]:List b4)))])]⟩),(4,⟨false,4,[(V.agg [(Sr x1),(I x2),(aL 0 a7 oa.2),(V.sl 1 4 (List.map b8 x4))])]⟩),(10,⟨false,8,[(V.agg [(Sr ob.2.1),(I ob.2.2.1),(I ob.2.2.2.1),(I ob.2.2.2.2.1),(V.sl 1 3 (List.map d9 oj)),(I ob.2.2.2.2.2.2.1),(Bo ob.2.2.2.2.2.2.2.1),(Bo ob.2.2.2.2.2.2.2.2)])]⟩)],284⟩) (ra 4 4 ⟨(Q7 o2 x0 o0 [(10,(Pt 10)),(11,(Pt 11)),(170,(Bo false)),(180,(V.ptr 10 0 4)),(181,(V.sl 1 3 (List.map d9 ob.2.2.2.2.2.1))),(182,(d9 oe)),(183,(j4 (([oe]:List b6))))]),[(0,⟨true,8,(List.map a7 oa.2).set (0+(sqW ((oa.2.length:Int) - 1)).toNat) (d7 ob.1)⟩),(2,⟨false,4,[(V.agg [(Sr []),(I 0),(V.sl 2 8 (List.map d7 ([]:List a6))),(V.sl 2 4 (List.map b8 ([]:List b4)))])]⟩),(4,⟨false,4,[(V.agg [(Sr x1),(I x2),(aL 0 a7 oa.2),(V.sl 1 4 (List.map b8 x4))])]⟩),(10,⟨false,8,[(V.agg [(Sr ob.2.1),(I ob.2.2.1),(I ob.2.2.2.1),(I ob.2.2.2.2.1),(j4 ob.2.2.2.2.2.1),(I ob.2.2.2.2.2.2.1),(Bo ob.2.2.2.2.2.2.2.1),(Bo ob.2.2.2.2.2.2.2.2)])]⟩),(11,vS 3 (d9 oe))],284⟩ rfl Z Z $ et (z6 (x:=(app ob.2.2.2.2.2.1 ([oe]:List b6))) (w:=fun vs=>((V.sl 1 3 (List.map d9 vs)),_)) Z Z Z Z (ga (e:=d9) Z Z Z Z Z Z Z Z Z Z (by decide))) $ s8 fun vs=>b7 Z) fun oj=>kgl wu Z (fun (ok:Unit)=>(T3 x1 x2 (oa.2.set (0+(sqW ((oa.2.length:Int) - 1)).toNat) ({ fName:=ob.2.1,fParent:=ob.2.2.1,fMin:=ob.2.2.2.1,fSize:=ob.2.2.2.2.1,fFields:=oj,fKey:=ob.2.2.2.2.2.2.1,fUnique:=ob.2.2.2.2.2.2.2.1,fLast:=ob.2.2.2.2.2.2.2.2 }:a6)) x4 (H4 o2 x0 []))) ?_ fun ok=>?_
       ·refine rd 4 (Hv oa.2 []) Z Z $ rl Z (fB (e:=a7) Z Z Z Z Z Z underlying23) $ ba 2 7 ⟨(rO o2 x0 [(187,(aL 0 a7 oa.2)),(188,(V.ptr 4 0 2)),(189,(aL 0 a7 oa.2)),(190,(I (oa.2.length:Int))),(191,(I (sqW ((oa.2.length:Int) - 1)))),(192,(V.agg [(Sr ob.2.1),(I ob.2.2.1),(I ob.2.2.2.1),(I ob.2.2.2.2.1),(V.sl 1 3 (List.map d9 oj)),(I ob.2.2.2.2.2.2.1),(Bo ob.2.2.2.2.2.2.2.1),(Bo ob.2.2.2.2.2.2.2.2)]))]),[(0,⟨true,8,(List.map a7 oa.2).set (0+(sqW ((oa.2.length:Int) - 1)).toNat) (d7 ob.1)⟩),(2,⟨false,4,[(V.agg [(Sr []),(I 0),(V.sl 2 8 (List.map d7 ([]:List a6))),(V.sl 2 4 (List.map b8 ([]:List b4)))])]⟩),(4,⟨false,4,[(V.agg [(Sr x1),(I x2),(aL 0 a7 oa.2),(V.sl 1 4 (List.map b8 x4))])]⟩),(10,⟨false,8,[(d7 ({ fName:=ob.2.1,fParent:=ob.2.2.1,fMin:=ob.2.2.2.1,fSize:=ob.2.2.2.2.1,fFields:=oj,fKey:=ob.2.2.2.2.2.2.1,fUnique:=ob.2.2.2.2.2.2.2.1,fLast:=ob.2.2.2.2.2.2.2.2 }:a6))]⟩)],284⟩ rfl Z Z $ rp Z (ur (l:=oa.2) (e:=a7) Z Z Z underlying23 Z Z (by decide)) fun vt=>bd 8 [(193,(V.ptr 0 (0+(sqW ((oa.2.length:Int) - 1)).toNat) 0))] Z Z $ et (J9 (x:=(oa.2[0+(sqW ((oa.2.length:Int) - 1)).toNat]?)) (w:=fun _=>(V.tup [],_)) (u:=fun _=>⟨(rO o2 x0 [(187,V.undef),(188,(V.ptr 4 0 2)),(189,V.undef),(190,(I (oa.2.length:Int))),(191,(I (sqW ((oa.2.length:Int) - 1)))),(192,(d7 ({ fName:=ob.2.1,fParent:=ob.2.2.1,fMin:=ob.2.2.2.1,fSize:=ob.2.2.2.2.1,fFields:=oj,fKey:=ob.2.2.2.2.2.2.1,fUnique:=ob.2.2.2.2.2.2.2.1,fLast:=ob.2.2.2.2.2.2.2.2 }:a6))),(193,V.undef)]),(Ho x1 x2 (oa.2.set (0+(sqW ((oa.2.length:Int) - 1)).toNat) ({ fName:=ob.2.1,fParent:=ob.2.2.1,fMin:=ob.2.2.2.1,fSize:=ob.2.2.2.2.1,fFields:=oj,fKey:=ob.2.2.2.2.2.2.1,fUnique:=ob.2.2.2.2.2.2.2.1,fLast:=ob.2.2.2.2.2.2.2.2 }:a6)) x4 ({ fName:=ob.2.1,fParent:=ob.2.2.1,fMin:=ob.2.2.2.1,fSize:=ob.2.2.2.2.1,fFields:=oj,fKey:=ob.2.2.2.2.2.2.1,fUnique:=ob.2.2.2.2.2.2.2.1,fLast:=ob.2.2.2.2.2.2.2.2 }:a6)),284⟩) Z Z Z Z Z Z Z (pD (S:=(fun n_=>⟨(rO o2 x0 [(187,(V.aref 0 0 n_)),(188,(V.ptr 4 0 2)),(189,(V.aref 0 0 n_)),(190,(I (oa.2.length:Int))),(191,(I (sqW ((oa.2.length:Int) - 1)))),(192,(V.agg [(Sr ob.2.1),(I ob.2.2.1),(I ob.2.2.2.1),(I ob.2.2.2.2.1),(V.sl 1 3 (List.map d9 oj)),(I ob.2.2.2.2.2.2.1),(Bo ob.2.2.2.2.2.2.2.1),(Bo ob.2.2.2.2.2.2.2.2)])),(193,(V.ptr 0 (0+(sqW ((oa.2.length:Int) - 1)).toNat) 0))]),[(0,⟨true,8,(List.map a7 oa.2).set (0+(sqW ((oa.2.length:Int) - 1)).toNat) (d7 ob.1)⟩),(2,⟨false,4,[(V.agg [(Sr []),(I 0),(V.sl 2 8 (List.map d7 ([]:List a6))),(V.sl 2 4 (List.map b8 ([]:List b4)))])]⟩),(4,⟨false,4,[(V.agg [(Sr x1),(I x2),(V.aref 0 0 n_),(V.sl 1 4 (List.map b8 x4))])]⟩),(10,⟨false,8,[(d7 ({ fName:=ob.2.1,fParent:=ob.2.2.1,fMin:=ob.2.2.2.1,fSize:=ob.2.2.2.2.1,fFields:=oj,fKey:=ob.2.2.2.2.2.2.1,fUnique:=ob.2.2.2.2.2.2.2.1,fLast:=ob.2.2.2.2.2.2.2.2 }:a6))]⟩)],284⟩)) (e:=a7) (l:=oa.2) (v:=({ fName:=ob.2.1,fParent:=ob.2.2.1,fMin:=ob.2.2.2.1,fSize:=ob.2.2.2.2.1,fFields:=oj,fKey:=ob.2.2.2.2.2.2.1,fUnique:=ob.2.2.2.2.2.2.2.1,fLast:=ob.2.2.2.2.2.2.2.2 }:a6)) Z Z Z Z Z Z Z Z Z Z Z) (fun _=>gh1 Z (P7 Z Z Z Z Z))) ?_
        exact j3 fun vu=>d8 Z
       exact et j5 $ et w6 $ et j5 $ kl (T3 x1 x2 (oa.2.set (0+(sqW ((oa.2.length:Int) - 1)).toNat) ({ fName:=ob.2.1,fParent:=ob.2.2.1,fMin:=ob.2.2.2.1,fSize:=ob.2.2.2.2.1,fFields:=oj,fKey:=ob.2.2.2.2.2.2.1,fUnique:=ob.2.2.2.2.2.2.2.1,fLast:=ob.2.2.2.2.2.2.2.2 }:a6)) x4 (H4 o2 (sqW (x0+1)) [])) Z $ et j6 $ ih (sqW (x0+1)) x1 x2 (oa.2.set (0+(sqW ((oa.2.length:Int) - 1)).toNat) ({ fName:=ob.2.1,fParent:=ob.2.2.1,fMin:=ob.2.2.2.1,fSize:=ob.2.2.2.2.1,fFields:=oj,fKey:=ob.2.2.2.2.2.2.1,fUnique:=ob.2.2.2.2.2.2.2.1,fLast:=ob.2.2.2.2.2.2.2.2 }:a6)) x4
     ·rw [hc]
      refine kg AN Z (fun (ol:Bool)=>(pT oa.2 x1 x2 x4 (Q7 o2 x0 o0 [(194,(Bo ol))]))) ?_ fun ol=>?_
      ·refine rd 1 [(195,(sS o0))] Z Z $ rp Z (j7 (e:=V.str) Z Z Z underlying41 Z (by decide)) fun vv=>bd 5 [(196,(Pr (Sr vv))),(197,(Sr vv)),(198,(Bo (vv == ([73,78,68,69,88]:Str)))),(199,(Bo (vv == ([73,78,68,69,88]:Str))))] Z Z $ w8 (fun hc=>?_) fun hc=>?_
       ·rw [hc]
        exact rd 6 [(200,(sS o0))] Z Z $ rl Z (A8 (e:=V.str) Z Z Z Z Z Z underlying41) $ b7 Z
       ·rw [hc]
        exact d8 Z
      refine kcl Z Z (fun hc=>?_) fun hc=>?_
      ·rw [hc]
       refine kg AO Z (fun (om:b4)=>(P2 oa.2 x1 x2 x4 om (Q8 o2 x0 o0 []))) (rd 1 [(204,(sS o0))] Z Z $ rp Z (j7 (e:=V.str) Z Z Z underlying41 Z (by decide)) fun vw=>b7 Z) fun om=>et d4 $ kra [(13,(I 0))] Z $ et (l5 Z) $ et B0 ?_
       refine mB k a0 o2 x0 x1 x2 x4 o0 oa _ _ ?h_ref11_read_L3_0 ?hr_ref11_read_L3 k 0 om
       ·intro y7 y8
        refine et r9 $ et d4 $ kr (P2 oa.2 x1 x2 x4 y8 (Q8 o2 x0 o0 [(14,(I 0))])) Z $ et (l5 Z) $ et B0 ?_
        refine mC k a0 o2 x0 x1 x2 x4 o0 oa _ _ ?h_ref11_read_L4_0 ?hr_ref11_read_L4 k 0 y8
        ·intro y9 ya
         refine et r9 $ et d4 $ kg AV Z (fun (on:Bool)=>(P2 oa.2 x1 x2 x4 ya (Q8 o2 x0 o0 [(264,(Bo on))]))) (rd 1 [(261,(sS o0))] Z Z $ rp Z (j7 (e:=V.str) Z Z Z underlying41 Z (by decide)) fun vx=>b7 Z) fun on=>kc Z Z (fun hc=>?_) fun hc=>?_
         ·rw [hc]
          refine et d4 $ kg AW Z (fun (oo:Str×Bool)=>(P2 oa.2 x1 x2 x4 ya (H4 o2 x0 [(12,(Pt 12)),(15,(Sr oo.1)),(16,(Bo oo.2))]))) (rd 1 [(266,(sS o0))] Z Z $ rp Z (j7 (e:=V.str) Z Z Z underlying41 Z (by decide)) fun vy=>bd 3 [(267,(Pr (Sr vy))),(268,(Sr vy))] Z Z $ rp Z (j9 Z Z Z Z Z (mt k vy) (.inl Z)) fun vz=>b7 Z) fun oo=>et d4 $ et d4 $ kr (P2 oa.2 x1 x2 x4 ya (H4 o2 x0 [(12,(Pt 12)),(15,(Sr oo.1)),(273,(Bo (!oo.2)))])) Z $ kc Z Z (fun hc=>?_) fun hc=>?_
          ·rw [hc]
           refine et d4 $ krp AX Z ⟨[(2,(Pt 2)),(3,(Bo false))],(rM ({ fName:=x1,fKind:=x2,fTypes:=oa.2,fIndexes:=x4 }:a8)),284⟩ ?_ ?_
           ·exact et (J9 (x:=some ()) (st1:=⟨(H4 o2 x0 [(12,(Pt 12)),(15,(Sr oo.1)),(273,(Bo true))]),[(2,⟨false,4,[(V.agg [(Sr []),(I 0),(V.sl 2 8 (List.map d7 ([]:List a6))),(V.sl 2 4 (List.map b8 ([]:List b4)))])]⟩),(4,⟨false,4,[(V.agg [(Sr x1),(I x2),(i6 oa.2),(V.sl 1 4 (List.map b8 x4))])]⟩),(12,vS 4 (b8 ya))],284⟩) (w:=fun _=>((V.agg [(Sr x1),(I x2),(i6 oa.2),(V.sl 1 4 (List.map b8 x4))]),⟨(H4 o2 x0 [(12,(Pt 12)),(15,(Sr oo.1)),(273,(Bo true))]),[(2,⟨false,4,[(V.agg [(Sr []),(I 0),(V.sl 2 8 (List.map d7 ([]:List a6))),(V.sl 2 4 (List.map b8 ([]:List b4)))])]⟩),(4,⟨false,4,[(V.agg [(Sr x1),(I x2),(i6 oa.2),(i8 x4)])]⟩),(12,vS 4 (b8 ya))],284⟩)) (u:=fun _=>⟨(H4 o2 x0 [(12,(Pt 12)),(15,(Sr oo.1)),(273,(Bo true)),(274,(V.agg [(Sr x1),(I x2),(i6 oa.2),(i8 x4)]))]),[(2,⟨false,4,[(V.agg [(Sr []),(I 0),(V.sl 2 8 (List.map d7 ([]:List a6))),(V.sl 2 4 (List.map b8 ([]:List b4)))])]⟩),(4,⟨false,4,[(V.agg [(Sr x1),(I x2),(i6 oa.2),(i8 x4)])]⟩),(12,vS 4 (b8 ya))],284⟩) Z Z Z Z Z Z (JN (P7 Z Z Z Z Z) (kH (e:=a7) (e':=d7) (fun _=>rfl) Z Z Z)) Z (fun _=>rfl)) $ et x9 $ d8 Z
           refine et I4 $ et u6 $ et u6 $ et A0 $ et (hret _) ?_
           rfl
          ·rw [hc]
           exact et l6 $ kr (P2 oa.2 x1 x2 x4 { ya with fSparse:=oo.1 } (H4 o2 x0 [(12,(Pt 12))])) Z $ kgl ww Z (fun (op:(List b4))=>(T3 x1 x2 oa.2 op (H4 o2 x0 []))) (ra 4 4 ⟨(H4 o2 x0 [(12,(Pt 12)),(277,(V.ptr 4 0 3)),(278,(V.sl 1 4 (List.map b8 x4))),(279,(b8 { ya with fSparse:=oo.1 })),(280,(i8 (([{ ya with fSparse:=oo.1 }]:List b4))))]),[(0,⟨true,8,List.map a7 oa.2⟩),(2,⟨false,4,[(V.agg [(Sr []),(I 0),(V.sl 2 8 (List.map d7 ([]:List a6))),(V.sl 2 4 (List.map b8 ([]:List b4)))])]⟩),(4,⟨false,4,[(V.agg [(Sr x1),(I x2),(aL 0 a7 oa.2),(i8 x4)])]⟩),(12,vS 4 (b8 { ya with fSparse:=oo.1 }))],284⟩ rfl Z Z $ et (z6 (x:=(app x4 ([{ ya with fSparse:=oo.1 }]:List b4))) (w:=fun vA=>((V.sl 1 4 (List.map b8 vA)),_)) Z Z Z Z (ga (e:=b8) Z Z Z Z Z Z Z Z Z Z (by decide))) $ j3 fun vA=>ba 1 6 ⟨(H4 o2 x0 [(12,(Pt 12)),(277,(V.ptr 4 0 3)),(278,(i8 x4)),(279,(b8 { ya with fSparse:=oo.1 })),(280,(i8 (([{ ya with fSparse:=oo.1 }]:List b4)))),(281,(V.sl 1 4 (List.map b8 vA))),(282,(V.ptr 4 0 3))]),[(0,⟨true,8,List.map a7 oa.2⟩),(2,⟨false,4,[(V.agg [(Sr []),(I 0),(V.sl 2 8 (List.map d7 ([]:List a6))),(V.sl 2 4 (List.map b8 ([]:List b4)))])]⟩),(4,⟨false,4,[(V.agg [(Sr x1),(I x2),(aL 0 a7 oa.2),(i8 x4)])]⟩),(12,vS 4 (b8 { ya with fSparse:=oo.1 }))],284⟩ rfl Z Z $ et (J9 (x:=some ()) (st1:=⟨(H4 o2 x0 [(12,(Pt 12)),(277,(V.ptr 4 0 3)),(278,(i8 x4)),(279,(b8 { ya with fSparse:=oo.1 })),(280,(i8 (([{ ya with fSparse:=oo.1 }]:List b4)))),(281,(V.sl 1 4 (List.map b8 vA))),(282,(V.ptr 4 0 3))]),[(0,⟨true,8,List.map a7 oa.2⟩),(2,⟨false,4,[(V.agg [(Sr []),(I 0),(V.sl 2 8 (List.map d7 ([]:List a6))),(V.sl 2 4 (List.map b8 ([]:List b4)))])]⟩),(4,⟨false,4,[(V.agg [(Sr x1),(I x2),(aL 0 a7 oa.2),(i8 x4)])]⟩),(12,vS 4 (b8 { ya with fSparse:=oo.1 }))],284⟩) (w:=fun _=>((V.tup []),(P2 oa.2 x1 x2 vA { ya with fSparse:=oo.1 } (H4 o2 x0 [(12,(Pt 12)),(277,(V.ptr 4 0 3)),(278,(i8 x4)),(279,(b8 { ya with fSparse:=oo.1 })),(280,(i8 (([{ ya with fSparse:=oo.1 }]:List b4)))),(281,(i8 vA)),(282,(V.ptr 4 0 3))])))) (u:=fun _=>⟨(H4 o2 x0 [(12,(Pt 12)),(277,(V.ptr 4 0 3)),(278,(i8 x4)),(279,(b8 { ya with fSparse:=oo.1 })),(280,(i8 (([{ ya with fSparse:=oo.1 }]:List b4)))),(281,(i8 vA)),(282,(V.ptr 4 0 3))]),(Hp x1 x2 oa.2 vA { ya with fSparse:=oo.1 }),284⟩) Z Z Z Z Z Z Z Z (fun _=>gh1 Z (P7 Z Z Z Z Z))) $ et x9 $ d8 Z) fun op=>et j5 $ et w6 $ et j5 $ kl (T3 x1 x2 oa.2 op (H4 o2 (sqW (x0+1)) [])) Z $ et j6 $ ih (sqW (x0+1)) x1 x2 oa.2 op
         ·rw [hc]
          exact et l6 $ kgl ww Z (fun (oq:(List b4))=>(T3 x1 x2 oa.2 oq (H4 o2 x0 []))) (ra 4 4 ⟨(Q8 o2 x0 o0 [(264,(Bo false)),(277,(V.ptr 4 0 3)),(278,(V.sl 1 4 (List.map b8 x4))),(279,(b8 ya)),(280,(i8 (([ya]:List b4))))]),[(0,⟨true,8,List.map a7 oa.2⟩),(2,⟨false,4,[(V.agg [(Sr []),(I 0),(V.sl 2 8 (List.map d7 ([]:List a6))),(V.sl 2 4 (List.map b8 ([]:List b4)))])]⟩),(4,⟨false,4,[(V.agg [(Sr x1),(I x2),(aL 0 a7 oa.2),(i8 x4)])]⟩),(12,vS 4 (b8 ya))],284⟩ rfl Z Z $ et (z6 (x:=(app x4 ([ya]:List b4))) (w:=fun vB=>((V.sl 1 4 (List.map b8 vB)),_)) Z Z Z Z (ga (e:=b8) Z Z Z Z Z Z Z Z Z Z (by decide))) $ j3 fun vB=>ba 1 6 ⟨(Q8 o2 x0 o0 [(264,(Bo false)),(277,(V.ptr 4 0 3)),(278,(i8 x4)),(279,(b8 ya)),(280,(i8 (([ya]:List b4)))),(281,(V.sl 1 4 (List.map b8 vB))),(282,(V.ptr 4 0 3))]),[(0,⟨true,8,List.map a7 oa.2⟩),(2,⟨false,4,[(V.agg [(Sr []),(I 0),(V.sl 2 8 (List.map d7 ([]:List a6))),(V.sl 2 4 (List.map b8 ([]:List b4)))])]⟩),(4,⟨false,4,[(V.agg [(Sr x1),(I x2),(aL 0 a7 oa.2),(i8 x4)])]⟩),(12,vS 4 (b8 ya))],284⟩ rfl Z Z $ et (J9 (x:=some ()) (st1:=⟨(Q8 o2 x0 o0 [(264,(Bo false)),(277,(V.ptr 4 0 3)),(278,(i8 x4)),(279,(b8 ya)),(280,(i8 (([ya]:List b4)))),(281,(V.sl 1 4 (List.map b8 vB))),(282,(V.ptr 4 0 3))]),[(0,⟨true,8,List.map a7 oa.2⟩),(2,⟨false,4,[(V.agg [(Sr []),(I 0),(V.sl 2 8 (List.map d7 ([]:List a6))),(V.sl 2 4 (List.map b8 ([]:List b4)))])]⟩),(4,⟨false,4,[(V.agg [(Sr x1),(I x2),(aL 0 a7 oa.2),(i8 x4)])]⟩),(12,vS 4 (b8 ya))],284⟩) (w:=fun _=>((V.tup []),(P2 oa.2 x1 x2 vB ya (Q8 o2 x0 o0 [(264,(Bo false)),(277,(V.ptr 4 0 3)),(278,(i8 x4)),(279,(b8 ya)),(280,(i8 (([ya]:List b4)))),(281,(i8 vB)),(282,(V.ptr 4 0 3))])))) (u:=fun _=>⟨(Q8 o2 x0 o0 [(264,(Bo false)),(277,(V.ptr 4 0 3)),(278,(i8 x4)),(279,(b8 ya)),(280,(i8 (([ya]:List b4)))),(281,(i8 vB)),(282,(V.ptr 4 0 3))]),(Hp x1 x2 oa.2 vB ya),284⟩) Z Z Z Z Z Z Z Z (fun _=>gh1 Z (P7 Z Z Z Z Z))) $ et x9 $ d8 Z) fun oq=>et j5 $ et w6 $ et j5 $ kl (T3 x1 x2 oa.2 oq (H4 o2 (sqW (x0+1)) [])) Z $ et j6 $ ih (sqW (x0+1)) x1 x2 oa.2 oq
        ·intro s; exact hret s
       ·intro s; exact hret s
      ·rw [hc]
       refine krp EB Z ⟨[(2,(Pt 2)),(3,(Bo false))],(rM ({ fName:=x1,fKind:=x2,fTypes:=oa.2,fIndexes:=x4 }:a8)),284⟩ ?_ ?_
       ·exact et (J9 (x:=some ()) (st1:=⟨(Q7 o2 x0 o0 [(194,(Bo false))]),[(2,⟨false,4,[(V.agg [(Sr []),(I 0),(V.sl 2 8 (List.map d7 ([]:List a6))),(V.sl 2 4 (List.map b8 ([]:List b4)))])]⟩),(4,⟨false,4,[(V.agg [(Sr x1),(I x2),(i6 oa.2),(V.sl 1 4 (List.map b8 x4))])]⟩)],284⟩) (w:=fun _=>((V.agg [(Sr x1),(I x2),(i6 oa.2),(V.sl 1 4 (List.map b8 x4))]),⟨(Q7 o2 x0 o0 [(194,(Bo false))]),[(2,⟨false,4,[(V.agg [(Sr []),(I 0),(V.sl 2 8 (List.map d7 ([]:List a6))),(V.sl 2 4 (List.map b8 ([]:List b4)))])]⟩),(4,⟨false,4,[(V.agg [(Sr x1),(I x2),(i6 oa.2),(i8 x4)])]⟩)],284⟩)) (u:=fun _=>⟨(Q7 o2 x0 o0 [(31,(V.agg [(Sr x1),(I x2),(i6 oa.2),(i8 x4)])),(194,(Bo false))]),[(2,⟨false,4,[(V.agg [(Sr []),(I 0),(V.sl 2 8 (List.map d7 ([]:List a6))),(V.sl 2 4 (List.map b8 ([]:List b4)))])]⟩),(4,⟨false,4,[(V.agg [(Sr x1),(I x2),(i6 oa.2),(i8 x4)])]⟩)],284⟩) Z Z Z Z Z Z (JN (P7 Z Z Z Z Z) (kH (e:=a7) (e':=d7) (fun _=>rfl) Z Z Z)) Z (fun _=>rfl)) $ et x9 $ d8 Z
       refine et l7 $ et u6 $ et u6 $ et A0 $ et (hret _) ?_
       rfl
  ·rw [hc]
   exact et C1 $ et s5 $ hK0 x0 x1 x2 x3 x4
theorem qE (k:Nat) (a0:Str):EV k 26 [(Sr a0)]=(bl k a0).map G4:=by
 cases k with
 | zero=>rfl
 | succ k=>
  unfold bl
  refine et (l9 (c:=f26c) (N:=284) (regs:=yL) Z func26 Z (by decide) Z Z Z) $ kr ⟨[(0,(Sr a0)),(2,(Pt 2))],Cu,284⟩ rfl $ kr ⟨(dR a0 []),Cv,284⟩ rfl $ kg Ey Z (fun (o2:(List Str))=>⟨[(2,(Pt 2)),(4,(Pt 4)),(5,(sS o2))],Cv,284⟩) (rd 1 [(17,(Sr a0))] Z Z $ rs Z (j9 Z Z Z Z Z (lb k a0 10) (.inl Z)) fun v1=>b7 Z) fun o2=>et d4 $ kra [(6,(I 0))] Z $ et (l5 Z) $ et B0 ?_
  refine mz k a0 o2 _ _ ?h_ref11_read_L1_0 ?hr_ref11_read_L1 k 0 [] 0 ([]:List a6) ([]:List b4)
  ·intro y0 y1 y2 y3 y4
   refine et r9 $ krp AY Z ⟨[(2,(Pt 2)),(3,(Bo true))],(rM ({ fName:=y1,fKind:=y2,fTypes:=y3,fIndexes:=y4 }:a8)),284⟩ ?_ ?_
   ·exact et (J9 (x:=some ()) (st1:=⟨(H4 o2 y0 [(23,(Bo false))]),[(2,⟨false,4,[(V.agg [(Sr []),(I 0),(V.sl 2 8 (List.map d7 ([]:List a6))),(V.sl 2 4 (List.map b8 ([]:List b4)))])]⟩),(4,⟨false,4,[(V.agg [(Sr y1),(I y2),(i6 y3),(V.sl 1 4 (List.map b8 y4))])]⟩)],284⟩) (w:=fun _=>((V.agg [(Sr y1),(I y2),(i6 y3),(V.sl 1 4 (List.map b8 y4))]),⟨(H4 o2 y0 [(23,(Bo false))]),[(2,⟨false,4,[(V.agg [(Sr []),(I 0),(V.sl 2 8 (List.map d7 ([]:List a6))),(V.sl 2 4 (List.map b8 ([]:List b4)))])]⟩),(4,⟨false,4,[(V.agg [(Sr y1),(I y2),(i6 y3),(i8 y4)])]⟩)],284⟩)) (u:=fun _=>⟨(H4 o2 y0 [(23,(Bo false)),(283,(V.agg [(Sr y1),(I y2),(i6 y3),(i8 y4)]))]),[(2,⟨false,4,[(V.agg [(Sr []),(I 0),(V.sl 2 8 (List.map d7 ([]:List a6))),(V.sl 2 4 (List.map b8 ([]:List b4)))])]⟩),(4,⟨false,4,[(V.agg [(Sr y1),(I y2),(i6 y3),(i8 y4)])]⟩)],284⟩) Z Z Z Z Z Z (gh3 (kH (e:=a7) (e':=d7) (fun _=>rfl) Z Z Z)) Z (fun _=>rfl)) $ et x9 $ d8 Z
   refine et l7 ?_
   rfl
  ·intro s; exact rfl
def bk:Bool→V×List V:=fun r=>((Bo r),[])
theorem jM (k:Nat) (a0:Str)  (K0:Int→Option Bool) (Kst:X×St→Option (V×List V)) (hK0:∀ (y0:Int),Kst (X.exit 0,(X0 [(0,(Sr a0)),(3,(I y0)),(8,(Bo false))]))=(K0 y0).map bk) (hret:∀ s,Kst (X.ret,s)=P5 prog 47 [(Sr a0)] [] [.tmp 2] (X.ret,s)):
  ∀ (m:Nat) (x7:Int),(L6 (C5 prog (EV k) HI k DU) m (X0 [(0,(Sr a0)),(3,(I x7))])).bind Kst=(N2 a0 K0 m x7).map bk:=by
 intro m
 induction m with
 | zero=>intros; rfl
 | succ m ih=>
  intro x7
  unfold N2
  refine et A6 $ et d4 $ kra [(8,(Bo (decide (x7 < (a0.length:Int)))))] Z $ kc Z Z (fun hc=>?_) fun hc=>?_
  ·rw [hc]
   refine et l6 $ et (l5 Z) $ kg DR Z (fun (o0:Bool)=>(X0 [(0,(Sr a0)),(3,(I x7)),(4,(Bo o0))])) ?_ fun o0=>?_
   ·refine rd 2 [(11,(Sr a0)),(12,(I x7))] Z Z $ rp Z (F0 Z Z Z underlying9) fun v8=>bd 5 [(13,(sqU v8)),(14,(Bo (decide (v8 ≥ 65)))),(15,(Bo (decide (v8 ≥ 65))))] Z Z $ w8 (fun hc=>?_) fun hc=>?_
    ·rw [hc]
     exact rd 7 [(16,(Sr a0)),(17,(I x7))] Z Z $ rp Z (F0 Z Z Z underlying9) fun v9=>b7 Z
    ·rw [hc]
     exact d8 Z
   refine kg DS Z (fun (o1:Bool)=>(X0 [(0,(Sr a0)),(3,(I x7)),(38,(Bo o1))])) ?_ fun o1=>?_
   ·refine rd 3 [(21,(Bo o0)),(22,(Bo (!o0))),(23,(Bo (!o0)))] Z Z $ w8 (fun hc=>?_) fun hc=>?_
    ·rw [hc]
     refine rd 6 [(24,(I x7)),(25,(Bo (x7 == 0))),(26,(Bo (x7 == 0)))] Z Z $ w8 (fun hc=>?_) fun hc=>?_
     ·rw [hc]
      exact d8 Z
     ·rw [hc]
      refine rd 8 [(27,(Sr a0)),(28,(I x7))] Z Z $ rp Z (F0 Z Z Z underlying9) fun v0=>bd 12 [(29,(sqU v0)),(30,(Bo (decide (v0 < 48)))),(31,(Bo (decide (v0 < 48)))),(32,(Bo (decide (v0 < 48))))] Z Z $ w8 (fun hc=>?_) fun hc=>?_
      ·rw [hc]
       exact d8 Z
      ·rw [hc]
       exact rd 14 [(33,(Sr a0)),(34,(I x7))] Z Z $ rp Z (F0 Z Z Z underlying9) fun v1=>b7 Z
    ·rw [hc]
     exact d8 Z
   refine kcl Z Z (fun hc=>?_) fun hc=>?_
   ·rw [hc]
    refine kr (X0 (am [])) Z $ et l7 $ et u6 $ et A0 $ et (hret _) ?_
    rfl
   ·rw [hc]
    exact et w6 $ et j5 $ kl (X0 [(0,(Sr a0)),(3,(I (sqW (x7+1))))]) Z $ et j6 $ ih (sqW (x7+1))
  ·rw [hc]
   exact et C1 $ et s5 $ hK0 x7
theorem Y7 (k:Nat) (a0:Str):EV k 13 [(Sr a0)]=(J8 k a0).map bk:=by
 cases k with
 | zero=>rfl
 | succ k=>
  unfold J8
  refine et (l9 (c:=f13c) (N:=47) (regs:=HI) Z func13 Z (by decide) Z Z Z) $ kra [] Z $ et d4 $ kra [(3,(I 0))] Z $ et (l5 Z) $ et B0 ?_
  refine jM k a0 _ _ ?h_ref11_IsName_L1_0 ?hr_ref11_IsName_L1 k 0
  ·intro y0
   refine et r9 $ kg DT Z (fun (o0:Bool)=>(X0 [(2,(Bo o0))])) ?_ fun o0=>?_
   ·refine rd 4 [(39,(Sr a0)),(40,(I (a0.length:Int))),(41,(Bo (decide ((a0.length:Int) ≥ 1)))),(42,(Bo (decide ((a0.length:Int) ≥ 1))))] Z Z $ w8 (fun hc=>?_) fun hc=>?_
    ·rw [hc]
     exact d8 Z
    ·rw [hc]
     exact d8 Z
   refine et l7 ?_
   rfl
  ·intro s; exact rfl
def Q3:Bool→V×List V:=fun r=>((Bo r),[])
theorem jR (k:Nat) (a0:a6) (x0:Int) (o0:b6)  (K0:Int→Option Bool) (Kst:X×St→Option (V×List V)) (hK0:∀ (y0:Int),Kst (X.exit 2,(mJ a0 o0 (bR x0 [(5,(I y0)),(51,(Bo false))])))=(K0 y0).map Q3) (hret:∀ s,Kst (X.ret,s)=P5 prog 112 [(d7 a0)] [] [.tmp 2] (X.ret,s)):
  ∀ (m:Nat) (x1:Int),(L6 (C5 prog (EV k) CX k Fh) m (mJ a0 o0 (bR x0 [(5,(I x1))]))).bind Kst=(G8 a0 x0 o0 K0 m x1).map Q3:=by
 intro m
 induction m with
 | zero=>intros; rfl
 | succ m ih=>
  intro x1
  unfold G8
  refine et A6 $ et d4 $ kra [(51,(Bo (decide (x1 < x0))))] Z $ kc Z Z (fun hc=>?_) fun hc=>?_
  ·rw [hc]
   refine et l6 $ et (l5 Z) $ kd Bd Z (fun (o1:Bool)=>(mJ a0 o0 (bR x0 [(5,(I x1)),(62,(Bo o1))]))) (et (k0 (p:=9) (dk:=true) (t:=(bR x0 [(5,(I x1)),(51,(Bo true))])) (σ:=(Hq a0 o0)) (n:=112) Z (by decide) (by decide) Z) $ et (m8 (m:=3) (j:=3) (t':=(bR x0 [(5,(I x1)),(51,(Bo true)),(54,(V.ptr 1 0 4)),(55,(j4 a0.fFields)),(56,(I x1))])) Z Z Z) $ et (b5 (x:=(idx a0.fFields x1)) (w:=fun v0=>(Pr (d9 v0))) Z Z Z Z Z (j7 (e:=d9) Z Z Z underlying50 Z (by decide))) $ j3 fun v0=>u0 Z) fun o1=>kcl Z Z (fun hc=>?_) fun hc=>?_
   ·rw [hc]
    refine kr (tu (am [])) Z $ et l7 $ et u6 $ et A0 $ et (hret _) ?_
    rfl
   ·rw [hc]
    exact et w6 $ et j5 $ kl (mJ a0 o0 (bR x0 [(5,(I (sqW (x1+1))))])) Z $ et j6 $ ih (sqW (x1+1))
  ·rw [hc]
   exact et C1 $ et s5 $ hK0 x1
theorem jQ (k:Nat) (a0:a6)  (K0:Int→Option Bool) (Kst:X×St→Option (V×List V)) (hK0:∀ (y0:Int),Kst (X.exit 0,⟨(ip y0 [(10,(Bo false))]),[(1,vS 8 (d7 a0))],112⟩)=(K0 y0).map Q3) (hret:∀ s,Kst (X.ret,s)=P5 prog 112 [(d7 a0)] [] [.tmp 2] (X.ret,s)):
  ∀ (m:Nat) (x0:Int),(L6 (C5 prog (EV k) CX k Fi) m ⟨(ip x0 []),[(1,vS 8 (d7 a0))],112⟩).bind Kst=(J4 k a0 K0 m x0).map Q3:=by
 intro m
 induction m with
 | zero=>intros; rfl
 | succ m ih=>
  intro x0
  unfold J4
  refine et A6 $ et d4 $ krp Fe Z ⟨(ip x0 [(10,(Bo (decide (x0 < (a0.fFields.length:Int)))))]),[(1,vS 8 (d7 a0))],112⟩ ?_ ?_
  ·exact rd 3 [(6,(I x0)),(7,(V.ptr 1 0 4)),(8,(j4 a0.fFields))] Z Z $ rl Z (A8 (e:=d9) Z Z Z Z Z Z underlying50) $ b7 Z
  refine kc Z Z (fun hc=>?_) fun hc=>?_
  ·rw [hc]
   refine et l6 $ et (l5 Z) $ kg Ff Z (fun (o0:b6)=>(mJ a0 o0 (bR x0 []))) (rd 3 [(13,(V.ptr 1 0 4)),(14,(j4 a0.fFields)),(15,(I x0))] Z Z $ rs Z (j7 (e:=d9) Z Z Z underlying50 Z (by decide)) fun v0=>b7 Z) fun o0=>et d4 $ kga Fg Z (fun (o1:Bool)=>[(48,(Bo o1))]) ?_ fun o1=>?_
   ·refine rd 2 [(18,(Pt 4)),(19,(Sr o0.fName))] Z Z $ rp Z (j9 Z Z Z Z Z (Y7 k o0.fName) (.inl Z)) fun v1=>bd 5 [(20,(Bo v1)),(21,(Bo (!v1))),(22,(Bo (!v1)))] Z Z $ w8 (fun hc=>?_) fun hc=>?_
    ·rw [hc]
     exact d8 Z
    ·rw [hc]
     refine rd 10 [(23,(V.ptr 4 0 1)),(24,(I o0.fAt)),(25,(Bo (decide (o0.fAt < 0)))),(26,(Bo (decide (o0.fAt < 0)))),(27,(Bo (decide (o0.fAt < 0))))] Z Z $ w8 (fun hc=>?_) fun hc=>?_
     ·rw [hc]
      exact d8 Z
     ·rw [hc]
      refine rd 17 [(28,(V.ptr 4 0 1)),(29,(I o0.fAt)),(30,(V.ptr 1 0 3)),(31,(I a0.fSize)),(32,(Bo (decide (o0.fAt > a0.fSize)))),(33,(Bo (decide (o0.fAt > a0.fSize)))),(34,(Bo (decide (o0.fAt > a0.fSize))))] Z Z $ w8 (fun hc=>?_) fun hc=>?_
      ·rw [hc]
       exact d8 Z
      ·rw [hc]
       refine rd 22 [(35,(V.ptr 4 0 2)),(36,(I o0.fBytes)),(37,(Bo (decide (o0.fBytes < 1)))),(38,(Bo (decide (o0.fBytes < 1)))),(39,(Bo (decide (o0.fBytes < 1))))] Z Z $ w8 (fun hc=>?_) fun hc=>?_
       ·rw [hc]
        exact d8 Z
       ·rw [hc]
        exact d8 Z
   refine kc Z Z (fun hc=>?_) fun hc=>?_
   ·rw [hc]
    refine et d4 $ kr (tu (am [])) Z $ et I4 $ et u6 $ et A0 $ et (hret _) ?_
    rfl
   ·rw [hc]
    refine et l6 $ kr (mJ a0 o0 (bR x0 [(5,(I 0))])) Z $ et (Q0 Z) $ et B0 ?_
    refine jR k a0 x0 o0 _ _ ?h_ref11_fields_L2_0 ?hr_ref11_fields_L2 k 0
    ·intro y1
     exact et r9 $ et w6 $ et j5 $ kl ⟨(ip (sqW (x0+1)) []),[(1,vS 8 (d7 a0))],112⟩ rfl $ et j6 $ ih (sqW (x0+1))
    ·intro s; exact hret s
  ·rw [hc]
   exact et C1 $ et s5 $ hK0 x0
theorem nM (k:Nat) (a0:a6):EV k 34 [(d7 a0)]=(aK k a0).map Q3:=by
 cases k with
 | zero=>rfl
 | succ k=>
  unfold aK
  refine et (l9 (c:=f34c) (N:=112) (regs:=CX) Z func34 Z (by decide) Z Z Z) $ kr ⟨[(1,(Pt 1))],[(1,vS 8 (d7 a0))],112⟩ rfl $ et d4 $ kra [(3,(I 0))] Z $ et (l5 Z) $ et B0 ?_
  refine jQ k a0 _ _ ?h_ref11_fields_L1_0 ?hr_ref11_fields_L1 k 0
  ·intro y0
   refine et r9 $ et d4 $ kg Be Z (fun (o0:Bool)=>⟨[(1,(Pt 1)),(82,(Bo o0))],[(1,vS 8 (d7 a0))],112⟩) ?_ fun o0=>?_
   ·refine rd 4 [(63,(V.ptr 1 0 5)),(64,(I a0.fKey)),(65,(Bo (decide (a0.fKey < (-1))))),(66,(Bo (decide (a0.fKey < (-1)))))] Z Z $ w8 (fun hc=>?_) fun hc=>?_
    ·rw [hc]
     exact d8 Z
    ·rw [hc]
     refine rd 8 [(67,(V.ptr 1 0 5)),(68,(I a0.fKey)),(69,(V.ptr 1 0 4)),(70,(j4 a0.fFields))] Z Z $ rl Z (A8 (e:=d9) Z Z Z Z Z Z underlying50) $ bd 12 [(71,(I (a0.fFields.length:Int))),(72,(Bo (decide (a0.fKey ≥ (a0.fFields.length:Int))))),(73,(Bo (decide (a0.fKey ≥ (a0.fFields.length:Int))))),(74,(Bo (decide (a0.fKey ≥ (a0.fFields.length:Int)))))] Z Z $ w8 (fun hc=>?_) fun hc=>?_
     ·rw [hc]
      exact d8 Z
     ·rw [hc]
      refine rd 16 [(75,(V.ptr 1 0 5)),(76,(I a0.fKey)),(77,(Bo (decide (a0.fKey < 0)))),(78,(Bo (decide (a0.fKey < 0))))] Z Z $ w8 (fun hc=>?_) fun hc=>?_
      ·rw [hc]
       exact d8 Z
      ·rw [hc]
       exact d8 Z
   refine kc Z Z (fun hc=>?_) fun hc=>?_
   ·rw [hc]
    refine et d4 $ kr (tu (am [])) Z $ et I4 ?_
    rfl
   ·rw [hc]
    refine et l6 $ kd Bf Z (fun (o1:Bool)=>(tu [(2,(Bo o1))])) ?_ fun o1=>?_
    ·refine et (k0 (p:=30) (dk:=true) (t:=[(1,(Pt 1)),(82,(Bo false))]) (σ:=[(1,vS 8 (d7 a0))]) (n:=112) Z (by decide) (by decide) Z) $ et (m8 (m:=2) (j:=2) (t':=(uJ [(84,(j4 a0.fFields))])) Z Z Z) $ et (b5 (x:=some ()) (w:=fun _=>(I (a0.fFields.length:Int))) Z Z Z Z Z (A8 (e:=d9) Z Z Z Z Z Z underlying50)) $ et x9 $ et (c8 (m:=2) (j:=5) (t':=(uJ [(84,(j4 a0.fFields)),(85,(I (a0.fFields.length:Int))),(86,(Bo (decide ((a0.fFields.length:Int)≤5)))),(87,(Bo (decide ((a0.fFields.length:Int)≤5))))])) Z Z Z) $ w8 (fun hc=>?_) fun hc=>?_
     ·rw [hc]
      refine et (m8 (m:=4) (j:=9) (t':=(uJ [(84,(j4 a0.fFields)),(85,(I (a0.fFields.length:Int))),(86,(Bo true)),(87,(Bo true)),(88,(V.ptr 1 0 5)),(89,(I a0.fKey)),(90,(Bo (decide (a0.fKey < 0)))),(91,(Bo (decide (a0.fKey < 0))))])) Z Z Z) $ w8 (fun hc=>?_) fun hc=>?_
      ·rw [hc]
       exact u0 Z
      ·rw [hc]
       exact et (m8 (m:=4) (j:=13) (t':=(uJ [(84,(j4 a0.fFields)),(85,(I (a0.fFields.length:Int))),(86,(Bo true)),(87,(Bo true)),(88,(V.ptr 1 0 5)),(89,(I a0.fKey)),(90,(Bo false)),(91,(Bo false)),(92,(V.ptr 1 0 4)),(93,(j4 a0.fFields)),(94,(V.ptr 1 0 5)),(95,(I a0.fKey))])) Z Z Z) $ et (b5 (x:=(idx a0.fFields a0.fKey)) (w:=fun v0=>(Pr (d9 v0))) Z Z Z Z Z (j7 (e:=d9) Z Z Z underlying50 Z (by decide))) $ j3 fun v0=>et (c8 (m:=6) (j:=20) (t':=(uJ [(84,(j4 a0.fFields)),(85,(I (a0.fFields.length:Int))),(86,(Bo true)),(87,(Bo true)),(88,(V.ptr 1 0 5)),(89,(I a0.fKey)),(90,(Bo false)),(91,(Bo false)),(92,(V.ptr 1 0 4)),(93,(j4 a0.fFields)),(94,(V.ptr 1 0 5)),(95,(I a0.fKey)),(96,(Pr (d9 v0))),(97,(Pr (I v0.fAt))),(98,(I v0.fAt)),(99,(V.ptr 1 0 4)),(100,(j4 a0.fFields)),(101,(V.ptr 1 0 5)),(102,(I a0.fKey))])) Z Z Z) $ et (b5 (x:=(idx a0.fFields a0.fKey)) (w:=fun v1=>(Pr (d9 v1))) Z Z Z Z Z (j7 (e:=d9) Z Z Z underlying50 Z (by decide))) $ j3 fun v1=>u0 Z
     ·rw [hc]
      exact u0 Z
    refine et l7 ?_
    rfl
  ·intro s; exact rfl
def cb:Bool→V×List V:=fun r=>((Bo r),[])
theorem lh (k:Nat) (a0:a8) (a1:Int) (a2:Int)  (K0:Int→Option Bool) (Kst:X×St→Option (V×List V)) (hK0:∀ (y0:Int),Kst (X.exit 0,⟨(pY a1 y0 [(14,(Bo false))]),[(3,vS 4 (j8 a0))],24⟩)=(K0 y0).map cb) (hret:∀ s,Kst (X.ret,s)=P5 prog 24 [(j8 a0),(I a1),(I a2)] [] [.tmp 6] (X.ret,s)):
  ∀ (m:Nat) (x5:Int),(L6 (C5 prog (EV k) HO k Fl) m ⟨(pY a1 x5 []),[(3,vS 4 (j8 a0))],24⟩).bind Kst=(Q2 a0 a1 K0 m x5).map cb:=by
 intro m
 induction m with
 | zero=>intros; rfl
 | succ m ih=>
  intro x5
  unfold Q2
  refine et A6 $ et d4 $ kra [(14,(Bo (decide (x5 ≥ 0))))] Z $ kc Z Z (fun hc=>?_) fun hc=>?_
  ·rw [hc]
   refine et l6 $ et (l5 Z) $ kr ⟨(pY a1 x5 [(23,(Bo (x5 == a1)))]),[(3,vS 4 (j8 a0))],24⟩ rfl $ kcl Z Z (fun hc=>?_) fun hc=>?_
   ·rw [hc]
    refine kr (mI [(6,(Bo true))]) Z $ et l7 $ et u6 $ et A0 $ et (hret _) ?_
    rfl
   ·rw [hc]
    exact et w6 $ et j5 $ kgl Fk Z (fun (o7:Int)=>⟨(pY a1 o7 []),[(3,vS 4 (j8 a0))],24⟩) (ra 3 3 ⟨(pY a1 x5 [(15,(V.ptr 3 0 2)),(16,(i6 a0.fTypes)),(17,(I x5)),(23,(Bo false))]),[(3,vS 4 (j8 a0))],24⟩ rfl Z Z $ rp Z (j7 (e:=d7) Z Z Z underlying23 Z (by decide)) fun v6=>b7 Z) fun o7=>et j6 $ ih o7
  ·rw [hc]
   exact et C1 $ et s5 $ hK0 x5
theorem pL (k:Nat) (a0:a8) (a1:Int) (a2:Int):EV k 35 [(j8 a0),(I a1),(I a2)]=(bM k a0 a1 a2).map cb:=by
 cases k with
 | zero=>rfl
 | succ k=>
  unfold bM
  refine et (l9 (c:=f35c) (N:=24) (regs:=HO) Z func35 Z (by decide) Z Z Z) $ kr ⟨(pY a1 a2 []),[(3,vS 4 (j8 a0))],24⟩ rfl $ et d4 $ kg Fj Z (fun (o2:Int)=>⟨(pY a1 o2 []),[(3,vS 4 (j8 a0))],24⟩) (rd 3 [(7,(V.ptr 3 0 2)),(8,(i6 a0.fTypes)),(9,(I a2))] Z Z $ rp Z (j7 (e:=d7) Z Z Z underlying23 Z (by decide)) fun v1=>b7 Z) fun o2=>et (l5 Z) $ et B0 ?_
  refine lh k a0 a1 a2 _ _ ?h_ref11_above_L1_0 ?hr_ref11_above_L1 k o2
  ·intro y8
   refine et r9 $ kr (mI [(6,(Bo false))]) Z $ et l7 ?_
   rfl
  ·intro s; exact rfl
def ec:(List Int)→V×List V:=fun r=>((sI r),[])
theorem nN (k:Nat) (a0:a8) (a1:Int)  (K0:Int→(List Int)→Option (List Int)) (Kst:X×St→Option (V×List V)) (hK0:∀ (y0:Int) (y1:(List Int)),Kst (X.exit 0,⟨(du y0 [(5,(sI y1)),(7,(Bo false))]),[(2,vS 4 (j8 a0))],19⟩)=(K0 y0 y1).map ec) (hret:∀ s,Kst (X.ret,s)=P5 prog 19 [(j8 a0),(I a1)] [] [.tmp 4] (X.ret,s)):
  ∀ (m:Nat) (x5:Int) (x6:(List Int)),(L6 (C5 prog (EV k) HP k Fo) m ⟨(du x5 [(5,(sI x6))]),[(2,vS 4 (j8 a0))],19⟩).bind Kst=(R5 a0 K0 m x5 x6).map ec:=by
 intro m
 induction m with
 | zero=>intros; rfl
 | succ m ih=>
  intro x5 x6
  unfold R5
  refine et A6 $ et d4 $ kra [(7,(Bo (decide (x5 ≥ 0))))] Z $ kc Z Z (fun hc=>?_) fun hc=>?_
  ·rw [hc]
   exact et l6 $ et (Q0 Z) $ kg Fm Z (fun (o8:(List Int))=>⟨(du x5 [(5,(sI o8))]),[(2,vS 4 (j8 a0))],19⟩) (rd 3 [(8,(I x5)),(9,(V.sl 1 1 (List.map I ([x5]:List Int)))),(10,(sI x6))] Z Z $ et (z6 (x:=(app ([x5]:List Int) x6)) (w:=fun v7=>((V.sl 1 1 (List.map I v7)),_)) Z Z Z Z (ga (e:=I) Z Z Z Z Z Z Z Z Z Z (by decide))) $ s8 fun v7=>b7 Z) fun o8=>kgl Fn Z (fun (o0:Int)=>⟨(du o0 [(5,(sI o8))]),[(2,vS 4 (j8 a0))],19⟩) (rd 3 [(12,(V.ptr 2 0 2)),(13,(i6 a0.fTypes)),(14,(I x5))] Z Z $ rp Z (j7 (e:=d7) Z Z Z underlying23 Z (by decide)) fun v9=>b7 Z) fun o0=>et j5 $ et w6 $ et j6 $ ih o0 o8
  ·rw [hc]
   exact et C1 $ et s5 $ hK0 x5 x6
theorem lj (k:Nat) (a0:a8) (a1:Int):EV k 36 [(j8 a0),(I a1)]=(cH k a0 a1).map ec:=by
 cases k with
 | zero=>rfl
 | succ k=>
  unfold cH
  refine et (l9 (c:=f36c) (N:=19) (regs:=HP) Z func36 Z (by decide) Z Z Z) $ kr ⟨(du a1 []),[(2,vS 4 (j8 a0))],19⟩ rfl $ kra [(5,(sI (([]:List Int))))] Z $ et (l5 Z) $ et B0 ?_
  refine nN k a0 a1 _ _ ?h_ref11_way_L1_0 ?hr_ref11_way_L1 k a1 ([]:List Int)
  ·intro y0 y1
   refine et r9 $ kr (I0 [(4,(sI y1))]) Z $ et l7 ?_
   rfl
  ·intro s; exact rfl
def F3:Bool→V×List V:=fun r=>((Bo r),[])
theorem ld (k:Nat) (a0:a8) (x0:Int) (o0:a6)  (K0:Int→Option Bool) (Kst:X×St→Option (V×List V)) (hK0:∀ (y0:Int),Kst (X.exit 2,(jY a0 o0 (bR x0 [(5,(I y0)),(81,(Bo false))])))=(K0 y0).map F3) (hret:∀ s,Kst (X.ret,s)=P5 prog 232 [(j8 a0)] [] [.tmp 2] (X.ret,s)):
  ∀ (m:Nat) (x1:Int),(L6 (C5 prog (EV k) yK k Ea) m (jY a0 o0 (bR x0 [(5,(I x1))]))).bind Kst=(I6 a0 x0 o0 K0 m x1).map F3:=by
 intro m
 induction m with
 | zero=>intros; rfl
 | succ m ih=>
  intro x1
  unfold I6
  refine et A6 $ et d4 $ kra [(81,(Bo (decide (x1 < x0))))] Z $ kc Z Z (fun hc=>?_) fun hc=>?_
  ·rw [hc]
   refine et l6 $ et (l5 Z) $ kd Am Z (fun (o1:Bool)=>(jY a0 o0 (bR x0 [(5,(I x1)),(92,(Bo o1))]))) (et (k0 (p:=9) (dk:=true) (t:=(bR x0 [(5,(I x1)),(81,(Bo true))])) (σ:=(Hr a0 o0)) (n:=232) Z (by decide) (by decide) Z) $ et (m8 (m:=3) (j:=3) (t':=(bR x0 [(5,(I x1)),(81,(Bo true)),(84,(V.ptr 1 0 2)),(85,(i6 a0.fTypes)),(86,(I x1))])) Z Z Z) $ et (b5 (x:=(idx a0.fTypes x1)) (w:=fun v0=>(Pr (d7 v0))) Z Z Z Z Z (j7 (e:=d7) Z Z Z underlying23 Z (by decide))) $ j3 fun v0=>u0 Z) fun o1=>kcl Z Z (fun hc=>?_) fun hc=>?_
   ·rw [hc]
    refine kr (ij (am [])) Z $ et l7 $ et u6 $ et A0 $ et (hret _) ?_
    rfl
   ·rw [hc]
    exact et w6 $ et j5 $ kl (jY a0 o0 (bR x0 [(5,(I (sqW (x1+1))))])) Z $ et j6 $ ih (sqW (x1+1))
  ·rw [hc]
   exact et C1 $ et s5 $ hK0 x1
theorem lc (k:Nat) (a0:a8)  (K0:Int→Option Bool) (Kst:X×St→Option (V×List V)) (hK0:∀ (y0:Int),Kst (X.exit 0,(aO a0 (ip y0 [(45,(Bo false))])))=(K0 y0).map F3) (hret:∀ s,Kst (X.ret,s)=P5 prog 232 [(j8 a0)] [] [.tmp 2] (X.ret,s)):
  ∀ (m:Nat) (x0:Int),(L6 (C5 prog (EV k) yK k Eb) m (aO a0 (ip x0 []))).bind Kst=(G3 k a0 K0 m x0).map F3:=by
 intro m
 induction m with
 | zero=>intros; rfl
 | succ m ih=>
  intro x0
  unfold G3
  refine et A6 $ et d4 $ krp DX Z (aO a0 (ip x0 [(45,(Bo (decide (x0 < (a0.fTypes.length:Int)))))])) ?_ ?_
  ·exact rd 3 [(41,(I x0)),(42,(V.ptr 1 0 2)),(43,(i6 a0.fTypes))] Z Z $ rl Z (A8 (e:=d7) Z Z Z Z Z Z underlying23) $ b7 Z
  refine kc Z Z (fun hc=>?_) fun hc=>?_
  ·rw [hc]
   refine et l6 $ et (l5 Z) $ kg DY Z (fun (o0:a6)=>(jY a0 o0 (bR x0 []))) (rd 3 [(48,(V.ptr 1 0 2)),(49,(i6 a0.fTypes)),(50,(I x0))] Z Z $ rs Z (j7 (e:=d7) Z Z Z underlying23 Z (by decide)) fun v0=>b7 Z) fun o0=>et d4 $ kga DZ Z (fun (o1:Bool)=>[(78,(Bo o1))]) ?_ fun o1=>?_
   ·refine rd 2 [(53,(Pt 4)),(54,(Sr o0.fName))] Z Z $ rp Z (j9 Z Z Z Z Z (Y7 k o0.fName) (.inl Z)) fun v1=>bd 5 [(55,(Bo v1)),(56,(Bo (!v1))),(57,(Bo (!v1)))] Z Z $ w8 (fun hc=>?_) fun hc=>?_
    ·rw [hc]
     exact d8 Z
    ·rw [hc]
     refine rd 10 [(58,(V.ptr 4 0 2)),(59,(I o0.fMin)),(60,(Bo (decide (o0.fMin < 1)))),(61,(Bo (decide (o0.fMin < 1)))),(62,(Bo (decide (o0.fMin < 1))))] Z Z $ w8 (fun hc=>?_) fun hc=>?_
     ·rw [hc]
      exact d8 Z
     ·rw [hc]
      refine rd 17 [(63,(V.ptr 4 0 2)),(64,(I o0.fMin)),(65,(V.ptr 4 0 3)),(66,(I o0.fSize)),(67,(Bo (decide (o0.fMin > o0.fSize)))),(68,(Bo (decide (o0.fMin > o0.fSize)))),(69,(Bo (decide (o0.fMin > o0.fSize))))] Z Z $ w8 (fun hc=>?_) fun hc=>?_
      ·rw [hc]
       exact d8 Z
      ·rw [hc]
       refine rd 22 [(70,(V.ptr 4 0 3)),(71,(I o0.fSize)),(72,(Bo (decide (o0.fSize > 40)))),(73,(Bo (decide (o0.fSize > 40)))),(74,(Bo (decide (o0.fSize > 40))))] Z Z $ w8 (fun hc=>?_) fun hc=>?_
       ·rw [hc]
        exact d8 Z
       ·rw [hc]
        exact rd 23 [(75,(d7 o0))] Z Z $ rp Z (j9 Z Z Z Z Z (nM k o0) (.inl Z)) fun v2=>b7 Z
   refine kc Z Z (fun hc=>?_) fun hc=>?_
   ·rw [hc]
    refine et d4 $ kr (ij (am [])) Z $ et I4 $ et u6 $ et A0 $ et (hret _) ?_
    rfl
   ·rw [hc]
    refine et l6 $ et d4 $ kr (jY a0 o0 (bR x0 [(5,(I 0))])) Z $ et (l5 Z) $ et B0 ?_
    refine ld k a0 x0 o0 _ _ ?h_ref11_Valid_L2_0 ?hr_ref11_Valid_L2 k 0
    ·intro y1
     refine et r9 $ et d4 $ kr (jY a0 o0 (bR x0 [(94,(Bo (x0 == 0)))])) Z $ kc Z Z (fun hc=>?_) fun hc=>?_
     ·rw [hc]
      refine et d4 $ et d4 $ kg Ao Z (fun (o2:Bool)=>(aO a0 (ip x0 [(117,(Bo o2))]))) ?_ fun o2=>?_
      ·refine rd 4 [(95,(V.ptr 4 0 1)),(96,(I o0.fParent)),(97,(Bo (o0.fParent != (-1)))),(98,(Bo (o0.fParent != (-1))))] Z Z $ w8 (fun hc=>?_) fun hc=>?_
       ·rw [hc]
        exact d8 Z
       ·rw [hc]
        refine rd 9 [(99,(V.ptr 4 0 5)),(100,(I o0.fKey)),(101,(Bo (decide (o0.fKey < 0)))),(102,(Bo (decide (o0.fKey < 0)))),(103,(Bo (decide (o0.fKey < 0))))] Z Z $ w8 (fun hc=>?_) fun hc=>?_
        ·rw [hc]
         exact d8 Z
        ·rw [hc]
         refine rd 14 [(104,(V.ptr 4 0 6)),(105,(Bo o0.fUnique)),(106,(Bo (!o0.fUnique))),(107,(Bo (!o0.fUnique))),(108,(Bo (!o0.fUnique)))] Z Z $ w8 (fun hc=>?_) fun hc=>?_
         ·rw [hc]
          exact d8 Z
         ·rw [hc]
          exact rd 18 [(109,(V.ptr 4 0 4)),(110,(j4 o0.fFields)),(111,(V.ptr 4 0 5)),(112,(I o0.fKey))] Z Z $ rp Z (j7 (e:=d9) Z Z Z underlying50 Z (by decide)) fun v3=>b7 Z
      refine kc Z Z (fun hc=>?_) fun hc=>?_
      ·rw [hc]
       refine et d4 $ kr (ij (am [])) Z $ et I4 $ et u6 $ et A0 $ et (hret _) ?_
       rfl
      ·rw [hc]
       exact et l6 $ et C1 $ et r9 $ kl (aO a0 (ip (sqW (x0+1)) [])) Z $ et j6 $ ih (sqW (x0+1))
     ·rw [hc]
      refine et l6 $ kg Ap Z (fun (o3:Bool)=>(aO a0 (ip x0 [(149,(Bo o3))]))) ?_ fun o3=>?_
      ·refine rd 4 [(118,(V.ptr 4 0 1)),(119,(I o0.fParent)),(120,(Bo (decide (o0.fParent < 0)))),(121,(Bo (decide (o0.fParent < 0))))] Z Z $ w8 (fun hc=>?_) fun hc=>?_
       ·rw [hc]
        exact d8 Z
       ·rw [hc]
        refine rd 10 [(122,(V.ptr 4 0 1)),(123,(I o0.fParent)),(124,(I x0)),(125,(Bo (decide (o0.fParent ≥ x0)))),(126,(Bo (decide (o0.fParent ≥ x0)))),(127,(Bo (decide (o0.fParent ≥ x0))))] Z Z $ w8 (fun hc=>?_) fun hc=>?_
        ·rw [hc]
         exact d8 Z
        ·rw [hc]
         refine rd 16 [(128,(V.ptr 4 0 1)),(129,(I o0.fParent)),(130,(I x0)),(131,(I (sqW (x0 - 1)))),(132,(Bo (o0.fParent != (sqW (x0 - 1))))),(133,(Bo (o0.fParent != (sqW (x0 - 1)))))] Z Z $ w8 (fun hc=>?_) fun hc=>?_
         ·rw [hc]
          refine rd 21 [(134,(j8 a0)),(135,(V.ptr 4 0 1)),(136,(I o0.fParent)),(137,(I x0)),(138,(I (sqW (x0 - 1))))] Z Z $ rp Z (j9 Z Z Z Z Z (pL k a0 o0.fParent (sqW (x0 - 1))) (.inl Z)) fun v4=>bd 26 [(139,(Bo v4)),(140,(Bo (!v4))),(141,(Bo (!v4))),(142,(Bo (!v4))),(143,(Bo (!v4)))] Z Z $ w8 (fun hc=>?_) fun hc=>?_
          ·rw [hc]
           exact d8 Z
          ·rw [hc]
           exact rd 28 [(144,(j8 a0)),(145,(I x0))] Z Z $ rp Z (j9 Z Z Z Z Z (lj k a0 x0) (.inl Z)) fun v5=>bd 29 [(146,(sI v5))] Z Z $ rl Z (A8 (e:=I) Z Z Z Z Z Z underlying36) $ b7 Z
         ·rw [hc]
          exact rd 28 [(134,(V.tup [])),(135,(V.tup [])),(136,(V.tup [])),(137,(V.tup [])),(138,(V.tup [])),(139,(V.tup [])),(140,(V.tup [])),(141,(Bo false)),(142,(Bo false)),(143,(Bo false)),(144,(j8 a0)),(145,(I x0))] Z Z $ rp Z (j9 Z Z Z Z Z (lj k a0 x0) (.inl Z)) fun v6=>bd 29 [(146,(sI v6))] Z Z $ rl Z (A8 (e:=I) Z Z Z Z Z Z underlying36) $ b7 Z
      refine kcl Z Z (fun hc=>?_) fun hc=>?_
      ·rw [hc]
       refine kr (ij (am [])) Z $ et l7 $ et u6 $ et A0 $ et (hret _) ?_
       rfl
      ·rw [hc]
       exact et w6 $ et j5 $ kl (aO a0 (ip (sqW (x0+1)) [])) Z $ et j6 $ ih (sqW (x0+1))
    ·intro s; exact hret s
  ·rw [hc]
   exact et C1 $ et s5 $ hK0 x0
theorem lg (k:Nat) (a0:a8) (x0:Int) (o0:b4)  (K0:Int→Option Bool) (Kst:X×St→Option (V×List V)) (hK0:∀ (y0:Int),Kst (X.exit 6,(jZ a0 o0 (eP x0 [(8,(I y0)),(220,(Bo false))])))=(K0 y0).map F3) (hret:∀ s,Kst (X.ret,s)=P5 prog 232 [(j8 a0)] [] [.tmp 2] (X.ret,s)):
  ∀ (m:Nat) (x1:Int),(L6 (C5 prog (EV k) yK k Ec) m (jZ a0 o0 (eP x0 [(8,(I x1))]))).bind Kst=(I8 a0 x0 o0 K0 m x1).map F3:=by
 intro m
 induction m with
 | zero=>intros; rfl
 | succ m ih=>
  intro x1
  unfold I8
  refine et A6 $ et d4 $ kra [(220,(Bo (decide (x1 < x0))))] Z $ kc Z Z (fun hc=>?_) fun hc=>?_
  ·rw [hc]
   refine et l6 $ et (l5 Z) $ kd At Z (fun (o1:Bool)=>(jZ a0 o0 (eP x0 [(8,(I x1)),(231,(Bo o1))]))) (et (k0 (p:=9) (dk:=true) (t:=(eP x0 [(8,(I x1)),(220,(Bo true))])) (σ:=(Cy a0 o0)) (n:=232) Z (by decide) (by decide) Z) $ et (m8 (m:=3) (j:=3) (t':=(eP x0 [(8,(I x1)),(220,(Bo true)),(223,(V.ptr 1 0 3)),(224,(i8 a0.fIndexes)),(225,(I x1))])) Z Z Z) $ et (b5 (x:=(idx a0.fIndexes x1)) (w:=fun v0=>(Pr (b8 v0))) Z Z Z Z Z (j7 (e:=b8) Z Z Z underlying24 Z (by decide))) $ j3 fun v0=>u0 Z) fun o1=>kcl Z Z (fun hc=>?_) fun hc=>?_
   ·rw [hc]
    refine kr (ij (am [])) Z $ et l7 $ et u6 $ et A0 $ et (hret _) ?_
    rfl
   ·rw [hc]
    exact et w6 $ et j5 $ kl (jZ a0 o0 (eP x0 [(8,(I (sqW (x1+1))))])) Z $ et j6 $ ih (sqW (x1+1))
  ·rw [hc]
   exact et C1 $ et s5 $ hK0 x1
theorem lf (k:Nat) (a0:a8)  (K0:Int→Option Bool) (Kst:X×St→Option (V×List V)) (hK0:∀ (y0:Int),Kst (X.exit 4,(aO a0 [(1,(Pt 1)),(6,(I y0)),(154,(Bo false))]))=(K0 y0).map F3) (hret:∀ s,Kst (X.ret,s)=P5 prog 232 [(j8 a0)] [] [.tmp 2] (X.ret,s)):
  ∀ (m:Nat) (x0:Int),(L6 (C5 prog (EV k) yK k Ed) m (aO a0 [(1,(Pt 1)),(6,(I x0))])).bind Kst=(I7 k a0 K0 m x0).map F3:=by
 intro m
 induction m with
 | zero=>intros; rfl
 | succ m ih=>
  intro x0
  unfold I7
  refine et A6 $ et d4 $ krp Aq Z (aO a0 [(1,(Pt 1)),(6,(I x0)),(154,(Bo (decide (x0 < (a0.fIndexes.length:Int)))))]) ?_ ?_
  ·exact rd 3 [(150,(I x0)),(151,(V.ptr 1 0 3)),(152,(i8 a0.fIndexes))] Z Z $ rl Z (A8 (e:=b8) Z Z Z Z Z Z underlying24) $ b7 Z
  refine kc Z Z (fun hc=>?_) fun hc=>?_
  ·rw [hc]
   refine et l6 $ et (l5 Z) $ kg Ar Z (fun (o0:b4)=>(jZ a0 o0 (eP x0 []))) (rd 3 [(157,(V.ptr 1 0 3)),(158,(i8 a0.fIndexes)),(159,(I x0))] Z Z $ rs Z (j7 (e:=b8) Z Z Z underlying24 Z (by decide)) fun v0=>b7 Z) fun o0=>et d4 $ kd As Z (fun (o1:Bool)=>(jZ a0 o0 (eP x0 [(217,(Bo o1))]))) ?_ fun o1=>?_
   ·refine et (k0 (p:=56) (dk:=true) (t:=(eP x0 [])) (σ:=(Cy a0 o0)) (n:=232) Z (by decide) (by decide) Z) $ et (m8 (m:=2) (j:=2) (t':=(eP x0 [(162,(Pt 7)),(163,(Sr o0.fName))])) Z Z Z) $ et (b5 (x:=(J8 k o0.fName)) (w:=fun v1=>(Bo v1)) Z Z Z Z Z (j9 Z Z Z Z Z (Y7 k o0.fName) (.inl Z))) $ j3 fun v1=>et (c8 (m:=2) (j:=5) (t':=(eP x0 [(162,(Pt 7)),(163,(Sr o0.fName)),(164,(Bo v1)),(165,(Bo (!v1))),(166,(Bo (!v1)))])) Z Z Z) $ w8 (fun hc=>?_) fun hc=>?_
    ·rw [hc]
     exact u0 Z
    ·rw [hc]
     refine et (m8 (m:=5) (j:=10) (t':=(eP x0 [(162,(Pt 7)),(163,(Sr o0.fName)),(164,(Bo v1)),(165,(Bo false)),(166,(Bo false)),(167,(V.ptr 7 0 1)),(168,(I o0.fType)),(169,(Bo (decide (o0.fType < 0)))),(170,(Bo (decide (o0.fType < 0)))),(171,(Bo (decide (o0.fType < 0))))])) Z Z Z) $ w8 (fun hc=>?_) fun hc=>?_
     ·rw [hc]
      exact u0 Z
     ·rw [hc]
      refine et (m8 (m:=4) (j:=14) (t':=(lp x0 o0.fName v1 o0.fType [(175,(i6 a0.fTypes))])) Z Z Z) $ et (b5 (x:=some ()) (w:=fun _=>(I (a0.fTypes.length:Int))) Z Z Z Z Z (A8 (e:=d7) Z Z Z Z Z Z underlying23)) $ et x9 $ et (c8 (m:=3) (j:=18) (t':=(lp x0 o0.fName v1 o0.fType [(175,(i6 a0.fTypes)),(176,(I (a0.fTypes.length:Int))),(177,(Bo (decide (o0.fType ≥ (a0.fTypes.length:Int))))),(178,(Bo (decide (o0.fType ≥ (a0.fTypes.length:Int))))),(179,(Bo (decide (o0.fType ≥ (a0.fTypes.length:Int)))))])) Z Z Z) $ w8 (fun hc=>?_) fun hc=>?_
      ·rw [hc]
       exact u0 Z
      ·rw [hc]
       refine et (m8 (m:=5) (j:=23) (t':=(lp x0 o0.fName v1 o0.fType [(175,(i6 a0.fTypes)),(176,(I (a0.fTypes.length:Int))),(177,(Bo false)),(178,(Bo false)),(179,(Bo false)),(180,(V.ptr 7 0 2)),(181,(I o0.fField)),(182,(Bo (decide (o0.fField < 0)))),(183,(Bo (decide (o0.fField < 0)))),(184,(Bo (decide (o0.fField < 0))))])) Z Z Z) $ w8 (fun hc=>?_) fun hc=>?_
       ·rw [hc]
        exact u0 Z
       ·rw [hc]
        refine et (m8 (m:=6) (j:=29) (t':=(lp x0 o0.fName v1 o0.fType [(175,(i6 a0.fTypes)),(176,(I (a0.fTypes.length:Int))),(177,(Bo false)),(178,(Bo false)),(179,(Bo false)),(180,(V.ptr 7 0 2)),(181,(I o0.fField)),(182,(Bo false)),(183,(Bo false)),(184,(Bo false)),(185,(V.ptr 7 0 2)),(186,(I o0.fField)),(187,(V.ptr 1 0 2)),(188,(i6 a0.fTypes)),(189,(V.ptr 7 0 1)),(190,(I o0.fType))])) Z Z Z) $ et (b5 (x:=(idx a0.fTypes o0.fType)) (w:=fun v2=>(Pr (d7 v2))) Z Z Z Z Z (j7 (e:=d7) Z Z Z underlying23 Z (by decide))) $ j3 fun v2=>et (c8 (m:=2) (j:=32) (t':=(lp x0 o0.fName v1 o0.fType [(175,(i6 a0.fTypes)),(176,(I (a0.fTypes.length:Int))),(177,(Bo false)),(178,(Bo false)),(179,(Bo false)),(180,(V.ptr 7 0 2)),(181,(I o0.fField)),(182,(Bo false)),(183,(Bo false)),(184,(Bo false)),(185,(V.ptr 7 0 2)),(186,(I o0.fField)),(187,(V.ptr 1 0 2)),(188,(i6 a0.fTypes)),(189,(V.ptr 7 0 1)),(190,(I o0.fType)),(191,(Pr (d7 v2))),(192,(Pr (j4 v2.fFields))),(193,(j4 v2.fFields))])) Z Z Z) $ et (b5 (x:=some ()) (w:=fun _=>(I (v2.fFields.length:Int))) Z Z Z Z Z (A8 (e:=d9) Z Z Z Z Z Z underlying50)) $ et x9 $ et (c8 (m:=3) (j:=36) (t':=(lp x0 o0.fName v1 o0.fType [(175,(i6 a0.fTypes)),(176,(I (a0.fTypes.length:Int))),(177,(Bo false)),(178,(Bo false)),(179,(Bo false)),(180,(V.ptr 7 0 2)),(181,(I o0.fField)),(182,(Bo false)),(183,(Bo false)),(184,(Bo false)),(185,(V.ptr 7 0 2)),(186,(I o0.fField)),(187,(V.ptr 1 0 2)),(188,(i6 a0.fTypes)),(189,(V.ptr 7 0 1)),(190,(I o0.fType)),(191,(Pr (d7 v2))),(192,(Pr (j4 v2.fFields))),(193,(j4 v2.fFields)),(194,(I (v2.fFields.length:Int))),(195,(Bo (decide (o0.fField ≥ (v2.fFields.length:Int))))),(196,(Bo (decide (o0.fField ≥ (v2.fFields.length:Int))))),(197,(Bo (decide (o0.fField ≥ (v2.fFields.length:Int)))))])) Z Z Z) $ w8 (fun hc=>?_) fun hc=>?_
        ·rw [hc]
         exact u0 Z
        ·rw [hc]
         refine et (m8 (m:=4) (j:=40) (t':=(lp x0 o0.fName v1 o0.fType [(175,(i6 a0.fTypes)),(176,(I (a0.fTypes.length:Int))),(177,(Bo false)),(178,(Bo false)),(179,(Bo false)),(180,(V.ptr 7 0 2)),(181,(I o0.fField)),(182,(Bo false)),(183,(Bo false)),(184,(Bo false)),(185,(V.ptr 7 0 2)),(186,(I o0.fField)),(187,(V.ptr 1 0 2)),(188,(i6 a0.fTypes)),(189,(V.ptr 7 0 1)),(190,(I o0.fType)),(191,(Pr (d7 v2))),(192,(Pr (j4 v2.fFields))),(193,(j4 v2.fFields)),(194,(I (v2.fFields.length:Int))),(195,(Bo false)),(196,(Bo false)),(197,(Bo false)),(198,(V.ptr 1 0 2)),(199,(i6 a0.fTypes)),(200,(V.ptr 7 0 1)),(201,(I o0.fType))])) Z Z Z) $ et (b5 (x:=(idx a0.fTypes o0.fType)) (w:=fun v3=>(Pr (d7 v3))) Z Z Z Z Z (j7 (e:=d7) Z Z Z underlying23 Z (by decide))) $ j3 fun v3=>et (c8 (m:=4) (j:=45) (t':=(lp x0 o0.fName v1 o0.fType [(175,(i6 a0.fTypes)),(176,(I (a0.fTypes.length:Int))),(177,(Bo false)),(178,(Bo false)),(179,(Bo false)),(180,(V.ptr 7 0 2)),(181,(I o0.fField)),(182,(Bo false)),(183,(Bo false)),(184,(Bo false)),(185,(V.ptr 7 0 2)),(186,(I o0.fField)),(187,(V.ptr 1 0 2)),(188,(i6 a0.fTypes)),(189,(V.ptr 7 0 1)),(190,(I o0.fType)),(191,(Pr (d7 v2))),(192,(Pr (j4 v2.fFields))),(193,(j4 v2.fFields)),(194,(I (v2.fFields.length:Int))),(195,(Bo false)),(196,(Bo false)),(197,(Bo false)),(198,(V.ptr 1 0 2)),(199,(i6 a0.fTypes)),(200,(V.ptr 7 0 1)),(201,(I o0.fType)),(202,(Pr (d7 v3))),(203,(Pr (j4 v3.fFields))),(204,(j4 v3.fFields)),(205,(V.ptr 7 0 2)),(206,(I o0.fField))])) Z Z Z) $ et (b5 (x:=(idx v3.fFields o0.fField)) (w:=fun v4=>(Pr (d9 v4))) Z Z Z Z Z (j7 (e:=d9) Z Z Z underlying50 Z (by decide))) $ j3 fun v4=>et (c8 (m:=5) (j:=51) (t':=(lp x0 o0.fName v1 o0.fType [(175,(i6 a0.fTypes)),(176,(I (a0.fTypes.length:Int))),(177,(Bo false)),(178,(Bo false)),(179,(Bo false)),(180,(V.ptr 7 0 2)),(181,(I o0.fField)),(182,(Bo false)),(183,(Bo false)),(184,(Bo false)),(185,(V.ptr 7 0 2)),(186,(I o0.fField)),(187,(V.ptr 1 0 2)),(188,(i6 a0.fTypes)),(189,(V.ptr 7 0 1)),(190,(I o0.fType)),(191,(Pr (d7 v2))),(192,(Pr (j4 v2.fFields))),(193,(j4 v2.fFields)),(194,(I (v2.fFields.length:Int))),(195,(Bo false)),(196,(Bo false)),(197,(Bo false)),(198,(V.ptr 1 0 2)),(199,(i6 a0.fTypes)),(200,(V.ptr 7 0 1)),(201,(I o0.fType)),(202,(Pr (d7 v3))),(203,(Pr (j4 v3.fFields))),(204,(j4 v3.fFields)),(205,(V.ptr 7 0 2)),(206,(I o0.fField)),(207,(Pr (d9 v4))),(208,(Pr (I v4.fBytes))),(209,(I v4.fBytes)),(210,(Bo (decide (v4.fBytes > 20)))),(211,(Bo (decide (v4.fBytes > 20)))),(212,(Bo (decide (v4.fBytes > 20))))])) Z Z Z) $ w8 (fun hc=>?_) fun hc=>?_
         ·rw [hc]
          exact u0 Z
         ·rw [hc]
          exact u0 Z
   refine kc Z Z (fun hc=>?_) fun hc=>?_
   ·rw [hc]
    refine et d4 $ kr (ij (am [])) Z $ et I4 $ et u6 $ et A0 $ et (hret _) ?_
    rfl
   ·rw [hc]
    refine et l6 $ kr (jZ a0 o0 (eP x0 [(8,(I 0))])) Z $ et (Q0 Z) $ et B0 ?_
    refine lg k a0 x0 o0 _ _ ?h_ref11_Valid_L4_0 ?hr_ref11_Valid_L4 k 0
    ·intro y1
     exact et r9 $ et w6 $ et j5 $ kl (aO a0 [(1,(Pt 1)),(6,(I (sqW (x0+1))))]) Z $ et j6 $ ih (sqW (x0+1))
    ·intro s; exact hret s
  ·rw [hc]
   exact et C1 $ et s5 $ hK0 x0
theorem pK (k:Nat) (a0:a8):EV k 15 [(j8 a0)]=(bL k a0).map F3:=by
 cases k with
 | zero=>rfl
 | succ k=>
  unfold bL
  refine et (l9 (c:=f15c) (N:=232) (regs:=yK) Z func15 Z (by decide) Z Z Z) $ kr (aO a0 [(1,(Pt 1))]) Z $ et d4 $ kga DW Z (fun (o2:Bool)=>[(40,(Bo o2))]) ?_ fun o2=>?_
  ·refine rd 2 [(9,(Pt 1)),(10,(Sr a0.fName))] Z Z $ rp Z (j9 Z Z Z Z Z (Y7 k a0.fName) (.inl Z)) fun v1=>bd 5 [(11,(Bo v1)),(12,(Bo (!v1))),(13,(Bo (!v1)))] Z Z $ w8 (fun hc=>?_) fun hc=>?_
   ·rw [hc]
    exact d8 Z
   ·rw [hc]
    refine rd 10 [(14,(V.ptr 1 0 1)),(15,(I a0.fKind)),(16,(Bo (decide (a0.fKind < 1)))),(17,(Bo (decide (a0.fKind < 1)))),(18,(Bo (decide (a0.fKind < 1))))] Z Z $ w8 (fun hc=>?_) fun hc=>?_
    ·rw [hc]
     exact d8 Z
    ·rw [hc]
     refine rd 15 [(19,(V.ptr 1 0 1)),(20,(I a0.fKind)),(21,(Bo (decide (a0.fKind > 4)))),(22,(Bo (decide (a0.fKind > 4)))),(23,(Bo (decide (a0.fKind > 4))))] Z Z $ w8 (fun hc=>?_) fun hc=>?_
     ·rw [hc]
      exact d8 Z
     ·rw [hc]
      refine rd 17 [(24,(V.ptr 1 0 2)),(25,(i6 a0.fTypes))] Z Z $ rl Z (A8 (e:=d7) Z Z Z Z Z Z underlying23) $ bd 21 [(26,(I (a0.fTypes.length:Int))),(27,(Bo (decide ((a0.fTypes.length:Int) < 1)))),(28,(Bo (decide ((a0.fTypes.length:Int) < 1)))),(29,(Bo (decide ((a0.fTypes.length:Int) < 1))))] Z Z $ w8 (fun hc=>?_) fun hc=>?_
      ·rw [hc]
       exact d8 Z
      ·rw [hc]
       refine rd 23 [(30,(V.ptr 1 0 2)),(31,(i6 a0.fTypes))] Z Z $ rl Z (A8 (e:=d7) Z Z Z Z Z Z underlying23) $ bd 27 [(32,(I (a0.fTypes.length:Int))),(33,(Bo (decide ((a0.fTypes.length:Int) > 8)))),(34,(Bo (decide ((a0.fTypes.length:Int) > 8)))),(35,(Bo (decide ((a0.fTypes.length:Int) > 8))))] Z Z $ w8 (fun hc=>?_) fun hc=>?_
       ·rw [hc]
        exact d8 Z
       ·rw [hc]
        exact rd 29 [(36,(V.ptr 1 0 3)),(37,(i8 a0.fIndexes))] Z Z $ rl Z (A8 (e:=b8) Z Z Z Z Z Z underlying24) $ b7 Z
  refine kc Z Z (fun hc=>?_) fun hc=>?_
  ·rw [hc]
   refine et d4 $ kr (ij (am [])) Z $ et I4 ?_
   rfl
  ·rw [hc]
   refine et l6 $ et d4 $ kr (aO a0 [(1,(Pt 1)),(3,(I 0))]) Z $ et (l5 Z) $ et B0 ?_
   refine lc k a0 _ _ ?h_ref11_Valid_L1_0 ?hr_ref11_Valid_L1 k 0
   ·intro y0
    refine et r9 $ et d4 $ kr (aO a0 [(1,(Pt 1)),(6,(I 0))]) Z $ et (l5 Z) $ et B0 ?_
    refine lf k a0 _ _ ?h_ref11_Valid_L3_0 ?hr_ref11_Valid_L3 k 0
    ·intro y1
     refine et r9 $ kr (ij [(2,(Bo true))]) Z $ et l7 ?_
     rfl
    ·intro s; exact rfl
   ·intro s; exact rfl
def dZ:Str→V×List V:=fun r=>((Sr r),[])
theorem nI (k:Nat) (a0:Str)  (K0:Str→Int→Option Str) (Kst:X×St→Option (V×List V)) (hK0:∀ (y0:Str) (y1:Int),Kst (X.exit 0,(Z9 [(0,(Sr a0)),(3,(Sr y0)),(4,(I y1)),(8,(Bo false))]))=(K0 y0 y1).map dZ) (hret:∀ s,Kst (X.ret,s)=P5 prog 35 [(Sr a0)] [] [.tmp 2] (X.ret,s)):
  ∀ (m:Nat) (x0:Str) (x1:Int),(L6 (C5 prog (EV k) HL k EQ) m (Z9 [(0,(Sr a0)),(3,(Sr x0)),(4,(I x1))])).bind Kst=(aI a0 K0 m x0 x1).map dZ:=by
 intro m
 induction m with
 | zero=>intros; rfl
 | succ m ih=>
  intro x0 x1
  unfold aI
  refine et A6 $ et d4 $ kra [(8,(Bo (decide (x1 < (a0.length:Int)))))] Z $ kc Z Z (fun hc=>?_) fun hc=>?_
  ·rw [hc]
   refine et l6 $ et (l5 Z) $ kdl EP Z (fun (o0:Str)=>(Z9 [(0,(Sr a0)),(3,(Sr o0)),(4,(I x1))])) (et (k0 (p:=23) (dk:=true) (t:=[(0,(Sr a0)),(3,(Sr x0)),(4,(I x1)),(8,(Bo true))]) (σ:=[]) (n:=35) Z (by decide) (by decide) Z) $ et (m8 (m:=3) (j:=3) (t':=(uH a0 x0 x1 [])) Z Z Z) $ et (b5 (x:=(R2 a0 x1)) (w:=fun v0=>(sqU v0)) Z Z Z Z Z (F0 Z Z Z underlying9)) $ j3 fun v0=>et (c8 (m:=0) (j:=4) (t':=(uH a0 x0 x1 [(14,(sqU v0))])) Z Z Z) $ et (b5 (x:=(mq .u8 v0 16)) (w:=fun v1=>(sqU v1)) Z Z Z Z Z (xR Z Z Z)) $ j3 fun v1=>et (c8 (m:=2) (j:=7) (t':=(uH a0 x0 x1 [(14,(sqU v0)),(15,(sqU v1)),(16,(Sr a0)),(17,(I x1))])) Z Z Z) $ et (b5 (x:=(R2 a0 x1)) (w:=fun v2=>(sqU v2)) Z Z Z Z Z (F0 Z Z Z underlying9)) $ j3 fun v2=>et (c8 (m:=0) (j:=8) (t':=(uH a0 x0 x1 [(14,(sqU v0)),(15,(sqU v1)),(16,(Sr a0)),(17,(I x1)),(18,(sqU v2))])) Z Z Z) $ et (b5 (x:=(mq .u8 v2 16)) (w:=fun v3=>(sqU v3)) Z Z Z Z Z (xR Z Z Z)) $ j3 fun v3=>et (c8 (m:=1) (j:=10) (t':=(uH a0 x0 x1 [(14,(sqU v0)),(15,(sqU v1)),(16,(Sr a0)),(17,(I x1)),(18,(sqU v2)),(19,(sqU v3)),(20,(sqU (sqB (v3+1))))])) Z Z Z) $ et (b5 (x:=(cut ([48,49,50,51,52,53,54,55,56,57,97,98,99,100,101,102]:Str) v1 (sqB (v3+1)))) (w:=fun v4=>(Sr v4)) Z Z Z Z Z (eL Z Z Z Z Z Z underlying9)) $ j3 fun v4=>et (c8 (m:=2) (j:=13) (t':=(pW a0 x0 x1 v0 v1 v2 v3 (sqB (v3+1)) v4 [])) Z Z Z) $ et (b5 (x:=(R2 a0 x1)) (w:=fun v5=>(sqU v5)) Z Z Z Z Z (F0 Z Z Z underlying9)) $ j3 fun v5=>et (c8 (m:=0) (j:=14) (t':=(pW a0 x0 x1 v0 v1 v2 v3 (sqB (v3+1)) v4 [(24,(sqU v5))])) Z Z Z) $ et (b5 (x:=(iU v5 16)) (w:=fun v6=>(sqU v6)) Z Z Z Z Z (ut Z Z Z)) $ j3 fun v6=>et (c8 (m:=2) (j:=17) (t':=(pW a0 x0 x1 v0 v1 v2 v3 (sqB (v3+1)) v4 [(24,(sqU v5)),(25,(sqU v6)),(26,(Sr a0)),(27,(I x1))])) Z Z Z) $ et (b5 (x:=(R2 a0 x1)) (w:=fun v7=>(sqU v7)) Z Z Z Z Z (F0 Z Z Z underlying9)) $ j3 fun v7=>et (c8 (m:=0) (j:=18) (t':=(pW a0 x0 x1 v0 v1 v2 v3 (sqB (v3+1)) v4 [(24,(sqU v5)),(25,(sqU v6)),(26,(Sr a0)),(27,(I x1)),(28,(sqU v7))])) Z Z Z) $ et (b5 (x:=(iU v7 16)) (w:=fun v8=>(sqU v8)) Z Z Z Z Z (ut Z Z Z)) $ j3 fun v8=>et (c8 (m:=1) (j:=20) (t':=(pW a0 x0 x1 v0 v1 v2 v3 (sqB (v3+1)) v4 [(24,(sqU v5)),(25,(sqU v6)),(26,(Sr a0)),(27,(I x1)),(28,(sqU v7)),(29,(sqU v8)),(30,(sqU (sqB (v8+1))))])) Z Z Z) $ et (b5 (x:=(cut ([48,49,50,51,52,53,54,55,56,57,97,98,99,100,101,102]:Str) v6 (sqB (v8+1)))) (w:=fun v9=>(Sr v9)) Z Z Z Z Z (eL Z Z Z Z Z Z underlying9)) $ j3 fun v9=>et (c8 (m:=0) (j:=21) (t':=(pW a0 x0 x1 v0 v1 v2 v3 (sqB (v3+1)) v4 [(24,(sqU v5)),(25,(sqU v6)),(26,(Sr a0)),(27,(I x1)),(28,(sqU v7)),(29,(sqU v8)),(30,(sqU (sqB (v8+1)))),(31,(Sr v9))])) Z Z Z) $ et (b5 (x:=(cat v4 v9)) (w:=fun va=>(Sr va)) Z Z Z Z Z (p9 Z Z Z)) $ j3 fun va=>et (c8 (m:=0) (j:=22) (t':=(pW a0 x0 x1 v0 v1 v2 v3 (sqB (v3+1)) v4 [(24,(sqU v5)),(25,(sqU v6)),(26,(Sr a0)),(27,(I x1)),(28,(sqU v7)),(29,(sqU v8)),(30,(sqU (sqB (v8+1)))),(31,(Sr v9)),(32,(Sr va))])) Z Z Z) $ et (b5 (x:=(cat x0 va)) (w:=fun vb=>(Sr vb)) Z Z Z Z Z (p9 Z Z Z)) $ s8 fun vb=>u0 Z) fun o0=>?_
   exact et j5 $ kl (Z9 [(0,(Sr a0)),(3,(Sr o0)),(4,(I (sqW (x1+1))))]) Z $ et j6 $ ih o0 (sqW (x1+1))
  ·rw [hc]
   exact et C1 $ et s5 $ hK0 x0 x1
theorem ti (k:Nat) (a0:Str):EV k 31 [(Sr a0)]=(eM k a0).map dZ:=by
 cases k with
 | zero=>rfl
 | succ k=>
  unfold eM
  refine et (l9 (c:=f31c) (N:=35) (regs:=HL) Z func31 Z (by decide) Z Z Z) $ kra [] Z $ kra [(3,(Sr ([]:Str)))] Z $ et d4 $ kra [(4,(I 0))] Z $ et (l5 Z) $ et B0 ?_
  refine nI k a0 _ _ ?h_ref01_Hex_L1_0 ?hr_ref01_Hex_L1 k ([]:Str) 0
  ·intro y0 y1
   refine et r9 $ kr (Z9 [(2,(Sr y0))]) Z $ et l7 ?_
   rfl
  ·intro s; exact rfl
def H9:(Str×Int)→V×List V:=fun r=>(.tup [(Sr r.1),(I r.2)],[])
theorem R4 (k:Nat) (a0:a8) (x0:Int) (o0:a6)  (K0:Str→Int→Option (Str×Int)) (Kst:X×St→Option (V×List V)) (hK0:∀ (y0:Str) (y1:Int),Kst (X.exit 2,(T4 a0 o0 (X1 y0 x0 [(9,(I y1)),(77,(Bo false))])))=(K0 y0 y1).map H9) (hret:∀ s,Kst (X.ret,s)=P5 prog 161 [(j8 a0)] [] [.tmp 2,.tmp 3] (X.ret,s)):
  ∀ (m:Nat) (x1:Str) (x2:Int),(L6 (C5 prog (EV k) Al k DK) m (T4 a0 o0 (X1 x1 x0 [(9,(I x2))]))).bind Kst=(B9 k o0 K0 m x1 x2).map H9:=by
 intro m
 induction m with
 | zero=>intros; rfl
 | succ m ih=>
  intro x1 x2
  unfold B9
  refine et A6 $ et d4 $ krp Ag Z (T4 a0 o0 (X1 x1 x0 [(9,(I x2)),(77,(Bo (decide (x2 < (o0.fFields.length:Int)))))])) ?_ ?_
  ·exact rd 3 [(73,(I x2)),(74,(V.ptr 6 0 4)),(75,(j4 o0.fFields))] Z Z $ rl Z (A8 (e:=d9) Z Z Z Z Z Z underlying50) $ b7 Z
  refine kc Z Z (fun hc=>?_) fun hc=>?_
  ·rw [hc]
   refine et l6 $ et (l5 Z) $ kg Ah Z (fun (o1:b6)=>⟨(gm x1 x0 x2 []),(rN a0 o0 o1),161⟩) (rd 3 [(80,(V.ptr 6 0 4)),(81,(j4 o0.fFields)),(82,(I x2))] Z Z $ rs Z (j7 (e:=d9) Z Z Z underlying50 Z (by decide)) fun v0=>b7 Z) fun o1=>kra [(11,(Sr ([45]:Str)))] Z $ et d4 $ kra [(88,(Bo (x2 == o0.fKey)))] Z $ kc Z Z (fun hc=>?_) fun hc=>?_
   ·rw [hc]
    refine et d4 $ kr ⟨(gm x1 x0 x2 [(11,(Sr ([77]:Str)))]),(rN a0 o0 o1),161⟩ rfl $ et d4 $ kra [(90,(Bo o0.fUnique))] Z $ kc Z Z (fun hc=>?_) fun hc=>?_
    ·rw [hc]
     refine kr ⟨(gm x1 x0 x2 [(11,(Sr ([85]:Str)))]),(rN a0 o0 o1),161⟩ rfl $ kdl sE Z (fun (o2:Str)=>(T4 a0 o0 (X1 o2 x0 [(9,(I x2))]))) (et (k0 (p:=19) (dk:=true) (t:=(gm x1 x0 x2 [(11,(Sr ([85]:Str)))])) (σ:=(rN a0 o0 o1)) (n:=161) Z (by decide) (by decide) Z) $ et (m8 (m:=3) (j:=3) (t':=(gm x1 x0 x2 [(11,(Sr ([85]:Str))),(91,(Sr x1)),(92,(Pt 10)),(93,(Sr o1.fName))])) Z Z Z) $ et (b5 (x:=(cat ([70,73,69,76,68,32]:Str) o1.fName)) (w:=fun v1=>(Sr v1)) Z Z Z Z Z (p9 Z Z Z)) $ j3 fun v1=>et (c8 (m:=0) (j:=4) (t':=(gm x1 x0 x2 [(11,(Sr ([85]:Str))),(91,(Sr x1)),(92,(Pt 10)),(93,(Sr o1.fName)),(94,(Sr v1))])) Z Z Z) $ et (b5 (x:=(cat v1 ([32]:Str))) (w:=fun v2=>(Sr v2)) Z Z Z Z Z (p9 Z Z Z)) $ j3 fun v2=>et (c8 (m:=2) (j:=7) (t':=(lz x1 x0 x2 o1.fName v1 v2 o1.fAt [])) Z Z Z) $ et (b5 (x:=(m9 k o1.fAt)) (w:=fun v3=>(Sr v3)) Z Z Z Z Z (j9 Z Z Z Z Z (B8 k o1.fAt) (.inl Z))) $ j3 fun v3=>et (c8 (m:=0) (j:=8) (t':=(lz x1 x0 x2 o1.fName v1 v2 o1.fAt [(98,(Sr v3))])) Z Z Z) $ et (b5 (x:=(cat v2 v3)) (w:=fun v4=>(Sr v4)) Z Z Z Z Z (p9 Z Z Z)) $ j3 fun v4=>et (c8 (m:=0) (j:=9) (t':=(lz x1 x0 x2 o1.fName v1 v2 o1.fAt [(98,(Sr v3)),(99,(Sr v4))])) Z Z Z) $ et (b5 (x:=(cat v4 ([32]:Str))) (w:=fun v5=>(Sr v5)) Z Z Z Z Z (p9 Z Z Z)) $ j3 fun v5=>et (c8 (m:=2) (j:=12) (t':=(lz x1 x0 x2 o1.fName v1 v2 o1.fAt [(98,(Sr v3)),(99,(Sr v4)),(100,(Sr v5)),(101,(V.ptr 10 0 2)),(102,(I o1.fBytes))])) Z Z Z) $ et (b5 (x:=(m9 k o1.fBytes)) (w:=fun v6=>(Sr v6)) Z Z Z Z Z (j9 Z Z Z Z Z (B8 k o1.fBytes) (.inl Z))) $ j3 fun v6=>et (c8 (m:=0) (j:=13) (t':=(lz x1 x0 x2 o1.fName v1 v2 o1.fAt [(98,(Sr v3)),(99,(Sr v4)),(100,(Sr v5)),(101,(V.ptr 10 0 2)),(102,(I o1.fBytes)),(103,(Sr v6))])) Z Z Z) $ et (b5 (x:=(cat v5 v6)) (w:=fun v7=>(Sr v7)) Z Z Z Z Z (p9 Z Z Z)) $ j3 fun v7=>et (c8 (m:=0) (j:=14) (t':=(lz x1 x0 x2 o1.fName v1 v2 o1.fAt [(98,(Sr v3)),(99,(Sr v4)),(100,(Sr v5)),(101,(V.ptr 10 0 2)),(102,(I o1.fBytes)),(103,(Sr v6)),(104,(Sr v7))])) Z Z Z) $ et (b5 (x:=(cat v7 ([32]:Str))) (w:=fun v8=>(Sr v8)) Z Z Z Z Z (p9 Z Z Z)) $ j3 fun v8=>et (c8 (m:=1) (j:=16) (t':=(lz x1 x0 x2 o1.fName v1 v2 o1.fAt [(98,(Sr v3)),(99,(Sr v4)),(100,(Sr v5)),(101,(V.ptr 10 0 2)),(102,(I o1.fBytes)),(103,(Sr v6)),(104,(Sr v7)),(105,(Sr v8)),(106,(Sr ([85]:Str)))])) Z Z Z) $ et (b5 (x:=(cat v8 ([85]:Str))) (w:=fun v9=>(Sr v9)) Z Z Z Z Z (p9 Z Z Z)) $ j3 fun v9=>et (c8 (m:=0) (j:=17) (t':=(lz x1 x0 x2 o1.fName v1 v2 o1.fAt [(98,(Sr v3)),(99,(Sr v4)),(100,(Sr v5)),(101,(V.ptr 10 0 2)),(102,(I o1.fBytes)),(103,(Sr v6)),(104,(Sr v7)),(105,(Sr v8)),(106,(Sr ([85]:Str))),(107,(Sr v9))])) Z Z Z) $ et (b5 (x:=(cat v9 ([10]:Str))) (w:=fun va=>(Sr va)) Z Z Z Z Z (p9 Z Z Z)) $ j3 fun va=>et (c8 (m:=0) (j:=18) (t':=(lz x1 x0 x2 o1.fName v1 v2 o1.fAt [(98,(Sr v3)),(99,(Sr v4)),(100,(Sr v5)),(101,(V.ptr 10 0 2)),(102,(I o1.fBytes)),(103,(Sr v6)),(104,(Sr v7)),(105,(Sr v8)),(106,(Sr ([85]:Str))),(107,(Sr v9)),(108,(Sr va))])) Z Z Z) $ et (b5 (x:=(cat x1 va)) (w:=fun vb=>(Sr vb)) Z Z Z Z Z (p9 Z Z Z)) $ s8 fun vb=>u0 Z) fun o2=>?_
     exact et j5 $ kl (T4 a0 o0 (X1 o2 x0 [(9,(I (sqW (x2+1))))])) Z $ et j6 $ ih o2 (sqW (x2+1))
    ·rw [hc]
     refine et l6 $ kdl sE Z (fun (o3:Str)=>(T4 a0 o0 (X1 o3 x0 [(9,(I x2))]))) ?_ fun o3=>?_
     ·refine et (k0 (p:=19) (dk:=true) (t:=(gm x1 x0 x2 [(11,(Sr ([77]:Str))),(90,(Bo false))])) (σ:=(rN a0 o0 o1)) (n:=161) Z (by decide) (by decide) Z) $ et (m8 (m:=3) (j:=3) (t':=(gm x1 x0 x2 [(11,(Sr ([77]:Str))),(90,(Bo false)),(91,(Sr x1)),(92,(Pt 10)),(93,(Sr o1.fName))])) Z Z Z) $ et (b5 (x:=(cat ([70,73,69,76,68,32]:Str) o1.fName)) (w:=fun vc=>(Sr vc)) Z Z Z Z Z (p9 Z Z Z)) $ j3 fun vc=>et (c8 (m:=0) (j:=4) (t':=(gm x1 x0 x2 [(11,(Sr ([77]:Str))),(90,(Bo false)),(91,(Sr x1)),(92,(Pt 10)),(93,(Sr o1.fName)),(94,(Sr vc))])) Z Z Z) $ et (b5 (x:=(cat vc ([32]:Str))) (w:=fun vd=>(Sr vd)) Z Z Z Z Z (p9 Z Z Z)) $ j3 fun vd=>et (c8 (m:=2) (j:=7) (t':=(lx x1 x0 x2 o1.fName vc vd o1.fAt [])) Z Z Z) $ et (b5 (x:=(m9 k o1.fAt)) (w:=fun ve=>(Sr ve)) Z Z Z Z Z (j9 Z Z Z Z Z (B8 k o1.fAt) (.inl Z))) $ j3 fun ve=>et (c8 (m:=0) (j:=8) (t':=(lx x1 x0 x2 o1.fName vc vd o1.fAt [(98,(Sr ve))])) Z Z Z) $ et (b5 (x:=(cat vd ve)) (w:=fun vf=>(Sr vf)) Z Z Z Z Z (p9 Z Z Z)) $ j3 fun vf=>et (c8 (m:=0) (j:=9) (t':=(lx x1 x0 x2 o1.fName vc vd o1.fAt [(98,(Sr ve)),(99,(Sr vf))])) Z Z Z) $ et (b5 (x:=(cat vf ([32]:Str))) (w:=fun vg=>(Sr vg)) Z Z Z Z Z (p9 Z Z Z)) $ j3 fun vg=>et (c8 (m:=2) (j:=12) (t':=(lx x1 x0 x2 o1.fName vc vd o1.fAt [(98,(Sr ve)),(99,(Sr vf)),(100,(Sr vg)),(101,(V.ptr 10 0 2)),(102,(I o1.fBytes))])) Z Z Z) $ et (b5 (x:=(m9 k o1.fBytes)) (w:=fun vh=>(Sr vh)) Z Z Z Z Z (j9 Z Z Z Z Z (B8 k o1.fBytes) (.inl Z))) $ j3 fun vh=>et (c8 (m:=0) (j:=13) (t':=(lx x1 x0 x2 o1.fName vc vd o1.fAt [(98,(Sr ve)),(99,(Sr vf)),(100,(Sr vg)),(101,(V.ptr 10 0 2)),(102,(I o1.fBytes)),(103,(Sr vh))])) Z Z Z) $ et (b5 (x:=(cat vg vh)) (w:=fun vi=>(Sr vi)) Z Z Z Z Z (p9 Z Z Z)) $ j3 fun vi=>et (c8 (m:=0) (j:=14) (t':=(lx x1 x0 x2 o1.fName vc vd o1.fAt [(98,(Sr ve)),(99,(Sr vf)),(100,(Sr vg)),(101,(V.ptr 10 0 2)),(102,(I o1.fBytes)),(103,(Sr vh)),(104,(Sr vi))])) Z Z Z) $ et (b5 (x:=(cat vi ([32]:Str))) (w:=fun vj=>(Sr vj)) Z Z Z Z Z (p9 Z Z Z)) $ j3 fun vj=>et (c8 (m:=1) (j:=16) (t':=(lx x1 x0 x2 o1.fName vc vd o1.fAt [(98,(Sr ve)),(99,(Sr vf)),(100,(Sr vg)),(101,(V.ptr 10 0 2)),(102,(I o1.fBytes)),(103,(Sr vh)),(104,(Sr vi)),(105,(Sr vj)),(106,(Sr ([77]:Str)))])) Z Z Z) $ et (b5 (x:=(cat vj ([77]:Str))) (w:=fun vk=>(Sr vk)) Z Z Z Z Z (p9 Z Z Z)) $ j3 fun vk=>et (c8 (m:=0) (j:=17) (t':=(lx x1 x0 x2 o1.fName vc vd o1.fAt [(98,(Sr ve)),(99,(Sr vf)),(100,(Sr vg)),(101,(V.ptr 10 0 2)),(102,(I o1.fBytes)),(103,(Sr vh)),(104,(Sr vi)),(105,(Sr vj)),(106,(Sr ([77]:Str))),(107,(Sr vk))])) Z Z Z) $ et (b5 (x:=(cat vk ([10]:Str))) (w:=fun vl=>(Sr vl)) Z Z Z Z Z (p9 Z Z Z)) $ j3 fun vl=>et (c8 (m:=0) (j:=18) (t':=(lx x1 x0 x2 o1.fName vc vd o1.fAt [(98,(Sr ve)),(99,(Sr vf)),(100,(Sr vg)),(101,(V.ptr 10 0 2)),(102,(I o1.fBytes)),(103,(Sr vh)),(104,(Sr vi)),(105,(Sr vj)),(106,(Sr ([77]:Str))),(107,(Sr vk)),(108,(Sr vl))])) Z Z Z) ?_
      exact et (b5 (x:=(cat x1 vl)) (w:=fun vm=>(Sr vm)) Z Z Z Z Z (p9 Z Z Z)) $ s8 fun vm=>u0 Z
     exact et j5 $ kl (T4 a0 o0 (X1 o3 x0 [(9,(I (sqW (x2+1))))])) Z $ et j6 $ ih o3 (sqW (x2+1))
   ·rw [hc]
    refine et l6 $ kdl sE Z (fun (o4:Str)=>(T4 a0 o0 (X1 o4 x0 [(9,(I x2))]))) ?_ fun o4=>?_
    ·refine et (k0 (p:=19) (dk:=true) (t:=(gm x1 x0 x2 [(11,(Sr ([45]:Str))),(88,(Bo false))])) (σ:=(rN a0 o0 o1)) (n:=161) Z (by decide) (by decide) Z) $ et (m8 (m:=3) (j:=3) (t':=(gm x1 x0 x2 [(11,(Sr ([45]:Str))),(88,(Bo false)),(91,(Sr x1)),(92,(Pt 10)),(93,(Sr o1.fName))])) Z Z Z) $ et (b5 (x:=(cat ([70,73,69,76,68,32]:Str) o1.fName)) (w:=fun vn=>(Sr vn)) Z Z Z Z Z (p9 Z Z Z)) $ j3 fun vn=>et (c8 (m:=0) (j:=4) (t':=(gm x1 x0 x2 [(11,(Sr ([45]:Str))),(88,(Bo false)),(91,(Sr x1)),(92,(Pt 10)),(93,(Sr o1.fName)),(94,(Sr vn))])) Z Z Z) $ et (b5 (x:=(cat vn ([32]:Str))) (w:=fun vo=>(Sr vo)) Z Z Z Z Z (p9 Z Z Z)) $ j3 fun vo=>et (c8 (m:=2) (j:=7) (t':=(ly x1 x0 x2 o1.fName vn vo o1.fAt [])) Z Z Z) $ et (b5 (x:=(m9 k o1.fAt)) (w:=fun vp=>(Sr vp)) Z Z Z Z Z (j9 Z Z Z Z Z (B8 k o1.fAt) (.inl Z))) $ j3 fun vp=>et (c8 (m:=0) (j:=8) (t':=(ly x1 x0 x2 o1.fName vn vo o1.fAt [(98,(Sr vp))])) Z Z Z) $ et (b5 (x:=(cat vo vp)) (w:=fun vq=>(Sr vq)) Z Z Z Z Z (p9 Z Z Z)) $ j3 fun vq=>et (c8 (m:=0) (j:=9) (t':=(ly x1 x0 x2 o1.fName vn vo o1.fAt [(98,(Sr vp)),(99,(Sr vq))])) Z Z Z) $ et (b5 (x:=(cat vq ([32]:Str))) (w:=fun vr=>(Sr vr)) Z Z Z Z Z (p9 Z Z Z)) $ j3 fun vr=>et (c8 (m:=2) (j:=12) (t':=(ly x1 x0 x2 o1.fName vn vo o1.fAt [(98,(Sr vp)),(99,(Sr vq)),(100,(Sr vr)),(101,(V.ptr 10 0 2)),(102,(I o1.fBytes))])) Z Z Z) $ et (b5 (x:=(m9 k o1.fBytes)) (w:=fun vs=>(Sr vs)) Z Z Z Z Z (j9 Z Z Z Z Z (B8 k o1.fBytes) (.inl Z))) $ j3 fun vs=>et (c8 (m:=0) (j:=13) (t':=(ly x1 x0 x2 o1.fName vn vo o1.fAt [(98,(Sr vp)),(99,(Sr vq)),(100,(Sr vr)),(101,(V.ptr 10 0 2)),(102,(I o1.fBytes)),(103,(Sr vs))])) Z Z Z) $ et (b5 (x:=(cat vr vs)) (w:=fun vt=>(Sr vt)) Z Z Z Z Z (p9 Z Z Z)) $ j3 fun vt=>et (c8 (m:=0) (j:=14) (t':=(ly x1 x0 x2 o1.fName vn vo o1.fAt [(98,(Sr vp)),(99,(Sr vq)),(100,(Sr vr)),(101,(V.ptr 10 0 2)),(102,(I o1.fBytes)),(103,(Sr vs)),(104,(Sr vt))])) Z Z Z) $ et (b5 (x:=(cat vt ([32]:Str))) (w:=fun vu=>(Sr vu)) Z Z Z Z Z (p9 Z Z Z)) $ j3 fun vu=>et (c8 (m:=1) (j:=16) (t':=(ly x1 x0 x2 o1.fName vn vo o1.fAt [(98,(Sr vp)),(99,(Sr vq)),(100,(Sr vr)),(101,(V.ptr 10 0 2)),(102,(I o1.fBytes)),(103,(Sr vs)),(104,(Sr vt)),(105,(Sr vu)),(106,(Sr ([45]:Str)))])) Z Z Z) $ et (b5 (x:=(cat vu ([45]:Str))) (w:=fun vv=>(Sr vv)) Z Z Z Z Z (p9 Z Z Z)) $ j3 fun vv=>et (c8 (m:=0) (j:=17) (t':=(ly x1 x0 x2 o1.fName vn vo o1.fAt [(98,(Sr vp)),(99,(Sr vq)),(100,(Sr vr)),(101,(V.ptr 10 0 2)),(102,(I o1.fBytes)),(103,(Sr vs)),(104,(Sr vt)),(105,(Sr vu)),(106,(Sr ([45]:Str))),(107,(Sr vv))])) Z Z Z) $ et (b5 (x:=(cat vv ([10]:Str))) (w:=fun vw=>(Sr vw)) Z Z Z Z Z (p9 Z Z Z)) $ j3 fun vw=>et (c8 (m:=0) (j:=18) (t':=(ly x1 x0 x2 o1.fName vn vo o1.fAt [(98,(Sr vp)),(99,(Sr vq)),(100,(Sr vr)),(101,(V.ptr 10 0 2)),(102,(I o1.fBytes)),(103,(Sr vs)),(104,(Sr vt)),(105,(Sr vu)),(106,(Sr ([45]:Str))),(107,(Sr vv)),(108,(Sr vw))])) Z Z Z) ?_
     exact et (b5 (x:=(cat x1 vw)) (w:=fun vx=>(Sr vx)) Z Z Z Z Z (p9 Z Z Z)) $ s8 fun vx=>u0 Z
    exact et j5 $ kl (T4 a0 o0 (X1 o4 x0 [(9,(I (sqW (x2+1))))])) Z $ et j6 $ ih o4 (sqW (x2+1))
  ·rw [hc]
   exact et C1 $ et s5 $ hK0 x1 x2
theorem jJ (k:Nat) (a0:a8)  (K0:Str→Int→Option (Str×Int)) (Kst:X×St→Option (V×List V)) (hK0:∀ (y0:Str) (y1:Int),Kst (X.exit 0,(V2 a0 (cm y0 [(5,(I y1)),(31,(Bo false))])))=(K0 y0 y1).map H9) (hret:∀ s,Kst (X.ret,s)=P5 prog 161 [(j8 a0)] [] [.tmp 2,.tmp 3] (X.ret,s)):
  ∀ (m:Nat) (x0:Str) (x1:Int),(L6 (C5 prog (EV k) Al k DL) m (V2 a0 (cm x0 [(5,(I x1))]))).bind Kst=(C8 k a0 K0 m x0 x1).map H9:=by
 intro m
 induction m with
 | zero=>intros; rfl
 | succ m ih=>
  intro x0 x1
  unfold C8
  refine et A6 $ et d4 $ krp DI Z (V2 a0 (cm x0 [(5,(I x1)),(31,(Bo (decide (x1 < (a0.fTypes.length:Int)))))])) ?_ ?_
  ·exact rd 3 [(27,(I x1)),(28,(V.ptr 1 0 2)),(29,(i6 a0.fTypes))] Z Z $ rl Z (A8 (e:=d7) Z Z Z Z Z Z underlying23) $ b7 Z
  refine kc Z Z (fun hc=>?_) fun hc=>?_
  ·rw [hc]
   refine et l6 $ et (l5 Z) $ kg DJ Z (fun (o0:a6)=>(T4 a0 o0 (X1 x0 x1 []))) (rd 3 [(34,(V.ptr 1 0 2)),(35,(i6 a0.fTypes)),(36,(I x1))] Z Z $ rs Z (j7 (e:=d7) Z Z Z underlying23 Z (by decide)) fun v0=>b7 Z) fun o0=>kra [(7,(Sr ([45]:Str))),(8,(Sr ([70]:Str)))] Z $ et d4 $ kra [(41,(Bo (decide (o0.fParent ≥ 0))))] Z $ kc Z Z (fun hc=>?_) fun hc=>?_
   ·rw [hc]
    refine kg Af Z (fun (o1:Str)=>(T4 a0 o0 (X1 x0 x1 [(7,(Sr o1)),(8,(Sr ([70]:Str)))]))) (rd 4 [(42,(V.ptr 1 0 2)),(43,(i6 a0.fTypes)),(44,(V.ptr 6 0 1)),(45,(I o0.fParent))] Z Z $ rp Z (j7 (e:=d7) Z Z Z underlying23 Z (by decide)) fun v1=>b7 Z) fun o1=>et d4 $ kra [(50,(Bo o0.fLast))] Z $ kc Z Z (fun hc=>?_) fun hc=>?_
    ·rw [hc]
     refine kr (T4 a0 o0 (X1 x0 x1 [(7,(Sr o1)),(8,(Sr ([76]:Str)))])) Z $ kd oV Z (fun (o2:Str)=>(T4 a0 o0 (X1 o2 x1 []))) (et (k0 (p:=22) (dk:=true) (t:=(X1 x0 x1 [(7,(Sr o1)),(8,(Sr ([76]:Str)))])) (σ:=(uG a0 o0)) (n:=161) Z (by decide) (by decide) Z) $ et (m8 (m:=3) (j:=3) (t':=(yn x0 x1 o1 o0.fName [])) Z Z Z) $ et (b5 (x:=(cat ([83,69,71,77,32]:Str) o0.fName)) (w:=fun v2=>(Sr v2)) Z Z Z Z Z (p9 Z Z Z)) $ j3 fun v2=>et (c8 (m:=0) (j:=4) (t':=(yn x0 x1 o1 o0.fName [(54,(Sr v2))])) Z Z Z) $ et (b5 (x:=(cat v2 ([32]:Str))) (w:=fun v3=>(Sr v3)) Z Z Z Z Z (p9 Z Z Z)) $ j3 fun v3=>et (c8 (m:=1) (j:=6) (t':=(yn x0 x1 o1 o0.fName [(54,(Sr v2)),(55,(Sr v3)),(56,(Sr o1))])) Z Z Z) $ et (b5 (x:=(cat v3 o1)) (w:=fun v4=>(Sr v4)) Z Z Z Z Z (p9 Z Z Z)) $ j3 fun v4=>et (c8 (m:=0) (j:=7) (t':=(yn x0 x1 o1 o0.fName [(54,(Sr v2)),(55,(Sr v3)),(56,(Sr o1)),(57,(Sr v4))])) Z Z Z) $ et (b5 (x:=(cat v4 ([32]:Str))) (w:=fun v5=>(Sr v5)) Z Z Z Z Z (p9 Z Z Z)) $ j3 fun v5=>et (c8 (m:=2) (j:=10) (t':=(lw x0 x1 o1 o0.fName v2 v3 v4 v5 o0.fMin [])) Z Z Z) $ et (b5 (x:=(m9 k o0.fMin)) (w:=fun v6=>(Sr v6)) Z Z Z Z Z (j9 Z Z Z Z Z (B8 k o0.fMin) (.inl Z))) $ j3 fun v6=>et (c8 (m:=0) (j:=11) (t':=(lw x0 x1 o1 o0.fName v2 v3 v4 v5 o0.fMin [(61,(Sr v6))])) Z Z Z) $ et (b5 (x:=(cat v5 v6)) (w:=fun v7=>(Sr v7)) Z Z Z Z Z (p9 Z Z Z)) $ j3 fun v7=>et (c8 (m:=0) (j:=12) (t':=(lw x0 x1 o1 o0.fName v2 v3 v4 v5 o0.fMin [(61,(Sr v6)),(62,(Sr v7))])) Z Z Z) $ et (b5 (x:=(cat v7 ([32]:Str))) (w:=fun v8=>(Sr v8)) Z Z Z Z Z (p9 Z Z Z)) $ j3 fun v8=>et (c8 (m:=2) (j:=15) (t':=(lw x0 x1 o1 o0.fName v2 v3 v4 v5 o0.fMin [(61,(Sr v6)),(62,(Sr v7)),(63,(Sr v8)),(64,(V.ptr 6 0 3)),(65,(I o0.fSize))])) Z Z Z) $ et (b5 (x:=(m9 k o0.fSize)) (w:=fun v9=>(Sr v9)) Z Z Z Z Z (j9 Z Z Z Z Z (B8 k o0.fSize) (.inl Z))) $ j3 fun v9=>et (c8 (m:=0) (j:=16) (t':=(lw x0 x1 o1 o0.fName v2 v3 v4 v5 o0.fMin [(61,(Sr v6)),(62,(Sr v7)),(63,(Sr v8)),(64,(V.ptr 6 0 3)),(65,(I o0.fSize)),(66,(Sr v9))])) Z Z Z) $ et (b5 (x:=(cat v8 v9)) (w:=fun va=>(Sr va)) Z Z Z Z Z (p9 Z Z Z)) $ j3 fun va=>et (c8 (m:=0) (j:=17) (t':=(lw x0 x1 o1 o0.fName v2 v3 v4 v5 o0.fMin [(61,(Sr v6)),(62,(Sr v7)),(63,(Sr v8)),(64,(V.ptr 6 0 3)),(65,(I o0.fSize)),(66,(Sr v9)),(67,(Sr va))])) Z Z Z) $ et (b5 (x:=(cat va ([32]:Str))) (w:=fun vb=>(Sr vb)) Z Z Z Z Z (p9 Z Z Z)) $ j3 fun vb=>et (c8 (m:=1) (j:=19) (t':=(lw x0 x1 o1 o0.fName v2 v3 v4 v5 o0.fMin [(61,(Sr v6)),(62,(Sr v7)),(63,(Sr v8)),(64,(V.ptr 6 0 3)),(65,(I o0.fSize)),(66,(Sr v9)),(67,(Sr va)),(68,(Sr vb)),(69,(Sr ([76]:Str)))])) Z Z Z) $ et (b5 (x:=(cat vb ([76]:Str))) (w:=fun vc=>(Sr vc)) Z Z Z Z Z (p9 Z Z Z)) $ j3 fun vc=>et (c8 (m:=0) (j:=20) (t':=(lw x0 x1 o1 o0.fName v2 v3 v4 v5 o0.fMin [(61,(Sr v6)),(62,(Sr v7)),(63,(Sr v8)),(64,(V.ptr 6 0 3)),(65,(I o0.fSize)),(66,(Sr v9)),(67,(Sr va)),(68,(Sr vb)),(69,(Sr ([76]:Str))),(70,(Sr vc))])) Z Z Z) $ et (b5 (x:=(cat vc ([10]:Str))) (w:=fun vd=>(Sr vd)) Z Z Z Z Z (p9 Z Z Z)) $ j3 fun vd=>et (c8 (m:=0) (j:=21) (t':=(lw x0 x1 o1 o0.fName v2 v3 v4 v5 o0.fMin [(61,(Sr v6)),(62,(Sr v7)),(63,(Sr v8)),(64,(V.ptr 6 0 3)),(65,(I o0.fSize)),(66,(Sr v9)),(67,(Sr va)),(68,(Sr vb)),(69,(Sr ([76]:Str))),(70,(Sr vc)),(71,(Sr vd))])) Z Z Z) $ et (b5 (x:=(cat x0 vd)) (w:=fun ve=>(Sr ve)) Z Z Z Z Z (p9 Z Z Z)) $ s8 fun ve=>u0 Z) fun o2=>?_
     refine kra [(9,(I 0))] Z $ et (Q0 Z) $ et B0 ?_
     refine R4 k a0 x1 o0 _ _ ?h_ref11_Format_L2_0 ?hr_ref11_Format_L2 k o2 0
     ·intro y2 y3
      exact et r9 $ et w6 $ et j5 $ kl (V2 a0 (cm y2 [(5,(I (sqW (x1+1))))])) Z $ et j6 $ ih y2 (sqW (x1+1))
     ·intro s; exact hret s
    ·rw [hc]
     refine et l6 $ kd oV Z (fun (o3:Str)=>(T4 a0 o0 (X1 o3 x1 []))) (et (k0 (p:=22) (dk:=true) (t:=(X1 x0 x1 [(7,(Sr o1)),(8,(Sr ([70]:Str))),(50,(Bo false))])) (σ:=(uG a0 o0)) (n:=161) Z (by decide) (by decide) Z) $ et (m8 (m:=3) (j:=3) (t':=(ym x0 x1 o1 o0.fName [])) Z Z Z) $ et (b5 (x:=(cat ([83,69,71,77,32]:Str) o0.fName)) (w:=fun vf=>(Sr vf)) Z Z Z Z Z (p9 Z Z Z)) $ j3 fun vf=>et (c8 (m:=0) (j:=4) (t':=(ym x0 x1 o1 o0.fName [(54,(Sr vf))])) Z Z Z) $ et (b5 (x:=(cat vf ([32]:Str))) (w:=fun vg=>(Sr vg)) Z Z Z Z Z (p9 Z Z Z)) $ j3 fun vg=>et (c8 (m:=1) (j:=6) (t':=(ym x0 x1 o1 o0.fName [(54,(Sr vf)),(55,(Sr vg)),(56,(Sr o1))])) Z Z Z) $ et (b5 (x:=(cat vg o1)) (w:=fun vh=>(Sr vh)) Z Z Z Z Z (p9 Z Z Z)) $ j3 fun vh=>et (c8 (m:=0) (j:=7) (t':=(ym x0 x1 o1 o0.fName [(54,(Sr vf)),(55,(Sr vg)),(56,(Sr o1)),(57,(Sr vh))])) Z Z Z) $ et (b5 (x:=(cat vh ([32]:Str))) (w:=fun vi=>(Sr vi)) Z Z Z Z Z (p9 Z Z Z)) $ j3 fun vi=>et (c8 (m:=2) (j:=10) (t':=(lv x0 x1 o1 o0.fName vf vg vh vi o0.fMin [])) Z Z Z) $ et (b5 (x:=(m9 k o0.fMin)) (w:=fun vj=>(Sr vj)) Z Z Z Z Z (j9 Z Z Z Z Z (B8 k o0.fMin) (.inl Z))) $ j3 fun vj=>et (c8 (m:=0) (j:=11) (t':=(lv x0 x1 o1 o0.fName vf vg vh vi o0.fMin [(61,(Sr vj))])) Z Z Z) $ et (b5 (x:=(cat vi vj)) (w:=fun vk=>(Sr vk)) Z Z Z Z Z (p9 Z Z Z)) $ j3 fun vk=>et (c8 (m:=0) (j:=12) (t':=(lv x0 x1 o1 o0.fName vf vg vh vi o0.fMin [(61,(Sr vj)),(62,(Sr vk))])) Z Z Z) $ et (b5 (x:=(cat vk ([32]:Str))) (w:=fun vl=>(Sr vl)) Z Z Z Z Z (p9 Z Z Z)) $ j3 fun vl=>et (c8 (m:=2) (j:=15) (t':=(lv x0 x1 o1 o0.fName vf vg vh vi o0.fMin [(61,(Sr vj)),(62,(Sr vk)),(63,(Sr vl)),(64,(V.ptr 6 0 3)),(65,(I o0.fSize))])) Z Z Z) $ et (b5 (x:=(m9 k o0.fSize)) (w:=fun vm=>(Sr vm)) Z Z Z Z Z (j9 Z Z Z Z Z (B8 k o0.fSize) (.inl Z))) $ j3 fun vm=>et (c8 (m:=0) (j:=16) (t':=(lv x0 x1 o1 o0.fName vf vg vh vi o0.fMin [(61,(Sr vj)),(62,(Sr vk)),(63,(Sr vl)),(64,(V.ptr 6 0 3)),(65,(I o0.fSize)),(66,(Sr vm))])) Z Z Z) $ et (b5 (x:=(cat vl vm)) (w:=fun vn=>(Sr vn)) Z Z Z Z Z (p9 Z Z Z)) $ j3 fun vn=>et (c8 (m:=0) (j:=17) (t':=(lv x0 x1 o1 o0.fName vf vg vh vi o0.fMin [(61,(Sr vj)),(62,(Sr vk)),(63,(Sr vl)),(64,(V.ptr 6 0 3)),(65,(I o0.fSize)),(66,(Sr vm)),(67,(Sr vn))])) Z Z Z) $ et (b5 (x:=(cat vn ([32]:Str))) (w:=fun vo=>(Sr vo)) Z Z Z Z Z (p9 Z Z Z)) $ j3 fun vo=>et (c8 (m:=1) (j:=19) (t':=(lv x0 x1 o1 o0.fName vf vg vh vi o0.fMin [(61,(Sr vj)),(62,(Sr vk)),(63,(Sr vl)),(64,(V.ptr 6 0 3)),(65,(I o0.fSize)),(66,(Sr vm)),(67,(Sr vn)),(68,(Sr vo)),(69,(Sr ([70]:Str)))])) Z Z Z) $ et (b5 (x:=(cat vo ([70]:Str))) (w:=fun vp=>(Sr vp)) Z Z Z Z Z (p9 Z Z Z)) $ j3 fun vp=>et (c8 (m:=0) (j:=20) (t':=(lv x0 x1 o1 o0.fName vf vg vh vi o0.fMin [(61,(Sr vj)),(62,(Sr vk)),(63,(Sr vl)),(64,(V.ptr 6 0 3)),(65,(I o0.fSize)),(66,(Sr vm)),(67,(Sr vn)),(68,(Sr vo)),(69,(Sr ([70]:Str))),(70,(Sr vp))])) Z Z Z) $ et (b5 (x:=(cat vp ([10]:Str))) (w:=fun vq=>(Sr vq)) Z Z Z Z Z (p9 Z Z Z)) $ j3 fun vq=>et (c8 (m:=0) (j:=21) (t':=(lv x0 x1 o1 o0.fName vf vg vh vi o0.fMin [(61,(Sr vj)),(62,(Sr vk)),(63,(Sr vl)),(64,(V.ptr 6 0 3)),(65,(I o0.fSize)),(66,(Sr vm)),(67,(Sr vn)),(68,(Sr vo)),(69,(Sr ([70]:Str))),(70,(Sr vp)),(71,(Sr vq))])) Z Z Z) $ et (b5 (x:=(cat x0 vq)) (w:=fun vr=>(Sr vr)) Z Z Z Z Z (p9 Z Z Z)) $ s8 fun vr=>u0 Z) fun o3=>?_
     refine kra [(9,(I 0))] Z $ et (Q0 Z) $ et B0 ?_
     refine R4 k a0 x1 o0 _ _ ?h_ref11_Format_L3_0 ?hr_ref11_Format_L3 k o3 0
     ·intro y4 y5
      exact et r9 $ et w6 $ et j5 $ kl (V2 a0 (cm y4 [(5,(I (sqW (x1+1))))])) Z $ et j6 $ ih y4 (sqW (x1+1))
     ·intro s; exact hret s
   ·rw [hc]
    refine et l6 $ et d4 $ kr (T4 a0 o0 (X1 x0 x1 [(7,(Sr ([45]:Str))),(8,(Sr ([70]:Str))),(50,(Bo o0.fLast))])) Z $ kc Z Z (fun hc=>?_) fun hc=>?_
    ·rw [hc]
     refine kr (T4 a0 o0 (X1 x0 x1 [(7,(Sr ([45]:Str))),(8,(Sr ([76]:Str)))])) Z $ kd oV Z (fun (o4:Str)=>(T4 a0 o0 (X1 o4 x1 []))) (et (k0 (p:=22) (dk:=true) (t:=(X1 x0 x1 [(7,(Sr ([45]:Str))),(8,(Sr ([76]:Str)))])) (σ:=(uG a0 o0)) (n:=161) Z (by decide) (by decide) Z) $ et (m8 (m:=3) (j:=3) (t':=(yl x0 x1 o0.fName [])) Z Z Z) $ et (b5 (x:=(cat ([83,69,71,77,32]:Str) o0.fName)) (w:=fun vs=>(Sr vs)) Z Z Z Z Z (p9 Z Z Z)) $ j3 fun vs=>et (c8 (m:=0) (j:=4) (t':=(yl x0 x1 o0.fName [(54,(Sr vs))])) Z Z Z) $ et (b5 (x:=(cat vs ([32]:Str))) (w:=fun vt=>(Sr vt)) Z Z Z Z Z (p9 Z Z Z)) $ j3 fun vt=>et (c8 (m:=1) (j:=6) (t':=(yl x0 x1 o0.fName [(54,(Sr vs)),(55,(Sr vt)),(56,(Sr ([45]:Str)))])) Z Z Z) $ et (b5 (x:=(cat vt ([45]:Str))) (w:=fun vu=>(Sr vu)) Z Z Z Z Z (p9 Z Z Z)) $ j3 fun vu=>et (c8 (m:=0) (j:=7) (t':=(yl x0 x1 o0.fName [(54,(Sr vs)),(55,(Sr vt)),(56,(Sr ([45]:Str))),(57,(Sr vu))])) Z Z Z) $ et (b5 (x:=(cat vu ([32]:Str))) (w:=fun vv=>(Sr vv)) Z Z Z Z Z (p9 Z Z Z)) $ j3 fun vv=>et (c8 (m:=2) (j:=10) (t':=(ls x0 x1 o0.fName vs vt vu vv o0.fMin [])) Z Z Z) $ et (b5 (x:=(m9 k o0.fMin)) (w:=fun vw=>(Sr vw)) Z Z Z Z Z (j9 Z Z Z Z Z (B8 k o0.fMin) (.inl Z))) $ j3 fun vw=>et (c8 (m:=0) (j:=11) (t':=(ls x0 x1 o0.fName vs vt vu vv o0.fMin [(61,(Sr vw))])) Z Z Z) $ et (b5 (x:=(cat vv vw)) (w:=fun vx=>(Sr vx)) Z Z Z Z Z (p9 Z Z Z)) $ j3 fun vx=>et (c8 (m:=0) (j:=12) (t':=(ls x0 x1 o0.fName vs vt vu vv o0.fMin [(61,(Sr vw)),(62,(Sr vx))])) Z Z Z) $ et (b5 (x:=(cat vx ([32]:Str))) (w:=fun vy=>(Sr vy)) Z Z Z Z Z (p9 Z Z Z)) $ j3 fun vy=>et (c8 (m:=2) (j:=15) (t':=(ls x0 x1 o0.fName vs vt vu vv o0.fMin [(61,(Sr vw)),(62,(Sr vx)),(63,(Sr vy)),(64,(V.ptr 6 0 3)),(65,(I o0.fSize))])) Z Z Z) $ et (b5 (x:=(m9 k o0.fSize)) (w:=fun vz=>(Sr vz)) Z Z Z Z Z (j9 Z Z Z Z Z (B8 k o0.fSize) (.inl Z))) $ j3 fun vz=>et (c8 (m:=0) (j:=16) (t':=(ls x0 x1 o0.fName vs vt vu vv o0.fMin [(61,(Sr vw)),(62,(Sr vx)),(63,(Sr vy)),(64,(V.ptr 6 0 3)),(65,(I o0.fSize)),(66,(Sr vz))])) Z Z Z) $ et (b5 (x:=(cat vy vz)) (w:=fun vA=>(Sr vA)) Z Z Z Z Z (p9 Z Z Z)) $ j3 fun vA=>et (c8 (m:=0) (j:=17) (t':=(ls x0 x1 o0.fName vs vt vu vv o0.fMin [(61,(Sr vw)),(62,(Sr vx)),(63,(Sr vy)),(64,(V.ptr 6 0 3)),(65,(I o0.fSize)),(66,(Sr vz)),(67,(Sr vA))])) Z Z Z) $ et (b5 (x:=(cat vA ([32]:Str))) (w:=fun vB=>(Sr vB)) Z Z Z Z Z (p9 Z Z Z)) $ j3 fun vB=>et (c8 (m:=1) (j:=19) (t':=(ls x0 x1 o0.fName vs vt vu vv o0.fMin [(61,(Sr vw)),(62,(Sr vx)),(63,(Sr vy)),(64,(V.ptr 6 0 3)),(65,(I o0.fSize)),(66,(Sr vz)),(67,(Sr vA)),(68,(Sr vB)),(69,(Sr ([76]:Str)))])) Z Z Z) $ et (b5 (x:=(cat vB ([76]:Str))) (w:=fun vC=>(Sr vC)) Z Z Z Z Z (p9 Z Z Z)) $ j3 fun vC=>et (c8 (m:=0) (j:=20) (t':=(ls x0 x1 o0.fName vs vt vu vv o0.fMin [(61,(Sr vw)),(62,(Sr vx)),(63,(Sr vy)),(64,(V.ptr 6 0 3)),(65,(I o0.fSize)),(66,(Sr vz)),(67,(Sr vA)),(68,(Sr vB)),(69,(Sr ([76]:Str))),(70,(Sr vC))])) Z Z Z) $ et (b5 (x:=(cat vC ([10]:Str))) (w:=fun vD=>(Sr vD)) Z Z Z Z Z (p9 Z Z Z)) $ j3 fun vD=>et (c8 (m:=0) (j:=21) (t':=(ls x0 x1 o0.fName vs vt vu vv o0.fMin [(61,(Sr vw)),(62,(Sr vx)),(63,(Sr vy)),(64,(V.ptr 6 0 3)),(65,(I o0.fSize)),(66,(Sr vz)),(67,(Sr vA)),(68,(Sr vB)),(69,(Sr ([76]:Str))),(70,(Sr vC)),(71,(Sr vD))])) Z Z Z) $ et (b5 (x:=(cat x0 vD)) (w:=fun vE=>(Sr vE)) Z Z Z Z Z (p9 Z Z Z)) $ s8 fun vE=>u0 Z) fun o4=>?_
     refine kra [(9,(I 0))] Z $ et (Q0 Z) $ et B0 ?_
     refine R4 k a0 x1 o0 _ _ ?h_ref11_Format_L4_0 ?hr_ref11_Format_L4 k o4 0
     ·intro y6 y7
      exact et r9 $ et w6 $ et j5 $ kl (V2 a0 (cm y6 [(5,(I (sqW (x1+1))))])) Z $ et j6 $ ih y6 (sqW (x1+1))
     ·intro s; exact hret s
    ·rw [hc]
     refine et l6 $ kd oV Z (fun (o5:Str)=>(T4 a0 o0 (X1 o5 x1 []))) (et (k0 (p:=22) (dk:=true) (t:=(X1 x0 x1 [(7,(Sr ([45]:Str))),(8,(Sr ([70]:Str))),(50,(Bo false))])) (σ:=(uG a0 o0)) (n:=161) Z (by decide) (by decide) Z) $ et (m8 (m:=3) (j:=3) (t':=(yj x0 x1 o0.fName [])) Z Z Z) $ et (b5 (x:=(cat ([83,69,71,77,32]:Str) o0.fName)) (w:=fun vF=>(Sr vF)) Z Z Z Z Z (p9 Z Z Z)) $ j3 fun vF=>et (c8 (m:=0) (j:=4) (t':=(yj x0 x1 o0.fName [(54,(Sr vF))])) Z Z Z) $ et (b5 (x:=(cat vF ([32]:Str))) (w:=fun vG=>(Sr vG)) Z Z Z Z Z (p9 Z Z Z)) $ j3 fun vG=>et (c8 (m:=1) (j:=6) (t':=(yj x0 x1 o0.fName [(54,(Sr vF)),(55,(Sr vG)),(56,(Sr ([45]:Str)))])) Z Z Z) $ et (b5 (x:=(cat vG ([45]:Str))) (w:=fun vH=>(Sr vH)) Z Z Z Z Z (p9 Z Z Z)) $ j3 fun vH=>et (c8 (m:=0) (j:=7) (t':=(yj x0 x1 o0.fName [(54,(Sr vF)),(55,(Sr vG)),(56,(Sr ([45]:Str))),(57,(Sr vH))])) Z Z Z) $ et (b5 (x:=(cat vH ([32]:Str))) (w:=fun vI=>(Sr vI)) Z Z Z Z Z (p9 Z Z Z)) $ j3 fun vI=>et (c8 (m:=2) (j:=10) (t':=(lq x0 x1 o0.fName vF vG vH vI o0.fMin [])) Z Z Z) $ et (b5 (x:=(m9 k o0.fMin)) (w:=fun vJ=>(Sr vJ)) Z Z Z Z Z (j9 Z Z Z Z Z (B8 k o0.fMin) (.inl Z))) $ j3 fun vJ=>et (c8 (m:=0) (j:=11) (t':=(lq x0 x1 o0.fName vF vG vH vI o0.fMin [(61,(Sr vJ))])) Z Z Z) $ et (b5 (x:=(cat vI vJ)) (w:=fun vK=>(Sr vK)) Z Z Z Z Z (p9 Z Z Z)) $ j3 fun vK=>et (c8 (m:=0) (j:=12) (t':=(lq x0 x1 o0.fName vF vG vH vI o0.fMin [(61,(Sr vJ)),(62,(Sr vK))])) Z Z Z) $ et (b5 (x:=(cat vK ([32]:Str))) (w:=fun vL=>(Sr vL)) Z Z Z Z Z (p9 Z Z Z)) $ j3 fun vL=>et (c8 (m:=2) (j:=15) (t':=(lq x0 x1 o0.fName vF vG vH vI o0.fMin [(61,(Sr vJ)),(62,(Sr vK)),(63,(Sr vL)),(64,(V.ptr 6 0 3)),(65,(I o0.fSize))])) Z Z Z) $ et (b5 (x:=(m9 k o0.fSize)) (w:=fun vM=>(Sr vM)) Z Z Z Z Z (j9 Z Z Z Z Z (B8 k o0.fSize) (.inl Z))) $ j3 fun vM=>et (c8 (m:=0) (j:=16) (t':=(lq x0 x1 o0.fName vF vG vH vI o0.fMin [(61,(Sr vJ)),(62,(Sr vK)),(63,(Sr vL)),(64,(V.ptr 6 0 3)),(65,(I o0.fSize)),(66,(Sr vM))])) Z Z Z) $ et (b5 (x:=(cat vL vM)) (w:=fun vN=>(Sr vN)) Z Z Z Z Z (p9 Z Z Z)) $ j3 fun vN=>et (c8 (m:=0) (j:=17) (t':=(lq x0 x1 o0.fName vF vG vH vI o0.fMin [(61,(Sr vJ)),(62,(Sr vK)),(63,(Sr vL)),(64,(V.ptr 6 0 3)),(65,(I o0.fSize)),(66,(Sr vM)),(67,(Sr vN))])) Z Z Z) $ et (b5 (x:=(cat vN ([32]:Str))) (w:=fun vO=>(Sr vO)) Z Z Z Z Z (p9 Z Z Z)) $ j3 fun vO=>et (c8 (m:=1) (j:=19) (t':=(lq x0 x1 o0.fName vF vG vH vI o0.fMin [(61,(Sr vJ)),(62,(Sr vK)),(63,(Sr vL)),(64,(V.ptr 6 0 3)),(65,(I o0.fSize)),(66,(Sr vM)),(67,(Sr vN)),(68,(Sr vO)),(69,(Sr ([70]:Str)))])) Z Z Z) $ et (b5 (x:=(cat vO ([70]:Str))) (w:=fun vP=>(Sr vP)) Z Z Z Z Z (p9 Z Z Z)) $ j3 fun vP=>et (c8 (m:=0) (j:=20) (t':=(lq x0 x1 o0.fName vF vG vH vI o0.fMin [(61,(Sr vJ)),(62,(Sr vK)),(63,(Sr vL)),(64,(V.ptr 6 0 3)),(65,(I o0.fSize)),(66,(Sr vM)),(67,(Sr vN)),(68,(Sr vO)),(69,(Sr ([70]:Str))),(70,(Sr vP))])) Z Z Z) $ et (b5 (x:=(cat vP ([10]:Str))) (w:=fun vQ=>(Sr vQ)) Z Z Z Z Z (p9 Z Z Z)) $ j3 fun vQ=>et (c8 (m:=0) (j:=21) (t':=(lq x0 x1 o0.fName vF vG vH vI o0.fMin [(61,(Sr vJ)),(62,(Sr vK)),(63,(Sr vL)),(64,(V.ptr 6 0 3)),(65,(I o0.fSize)),(66,(Sr vM)),(67,(Sr vN)),(68,(Sr vO)),(69,(Sr ([70]:Str))),(70,(Sr vP)),(71,(Sr vQ))])) Z Z Z) $ et (b5 (x:=(cat x0 vQ)) (w:=fun vR=>(Sr vR)) Z Z Z Z Z (p9 Z Z Z)) $ s8 fun vR=>u0 Z) fun o5=>?_
     refine kra [(9,(I 0))] Z $ et (Q0 Z) $ et B0 ?_
     refine R4 k a0 x1 o0 _ _ ?h_ref11_Format_L5_0 ?hr_ref11_Format_L5 k o5 0
     ·intro y8 y9
      exact et r9 $ et w6 $ et j5 $ kl (V2 a0 (cm y8 [(5,(I (sqW (x1+1))))])) Z $ et j6 $ ih y8 (sqW (x1+1))
     ·intro s; exact hret s
  ·rw [hc]
   exact et C1 $ et s5 $ hK0 x0 x1
theorem jK (k:Nat) (a0:a8)  (K0:Str→Int→Option (Str×Int)) (Kst:X×St→Option (V×List V)) (hK0:∀ (y0:Str) (y1:Int),Kst (X.exit 4,(V2 a0 (cm y0 [(12,(I y1)),(114,(Bo false))])))=(K0 y0 y1).map H9) (hret:∀ s,Kst (X.ret,s)=P5 prog 161 [(j8 a0)] [] [.tmp 2,.tmp 3] (X.ret,s)):
  ∀ (m:Nat) (x0:Str) (x1:Int),(L6 (C5 prog (EV k) Al k DM) m (V2 a0 (cm x0 [(12,(I x1))]))).bind Kst=(G7 k a0 K0 m x0 x1).map H9:=by
 intro m
 induction m with
 | zero=>intros; rfl
 | succ m ih=>
  intro x0 x1
  unfold G7
  refine et A6 $ et d4 $ krp Ai Z (V2 a0 (cm x0 [(12,(I x1)),(114,(Bo (decide (x1 < (a0.fIndexes.length:Int)))))])) ?_ ?_
  ·exact rd 3 [(110,(I x1)),(111,(V.ptr 1 0 3)),(112,(i8 a0.fIndexes))] Z Z $ rl Z (A8 (e:=b8) Z Z Z Z Z Z underlying24) $ b7 Z
  refine kc Z Z (fun hc=>?_) fun hc=>?_
  ·rw [hc]
   refine et l6 $ et (l5 Z) $ kg Aj Z (fun (o0:b4)=>⟨(nn x0 x1 []),[(1,vS 4 (j8 a0)),(13,vS 4 (b8 o0))],161⟩) (rd 3 [(117,(V.ptr 1 0 3)),(118,(i8 a0.fIndexes)),(119,(I x1))] Z Z $ rs Z (j7 (e:=b8) Z Z Z underlying24 Z (by decide)) fun v0=>b7 Z) fun o0=>kra [(14,(Sr ([45]:Str)))] Z $ et d4 $ kra [(124,(Bo (!(o0.fSparse == ([]:Str)))))] Z $ kc Z Z (fun hc=>?_) fun hc=>?_
   ·rw [hc]
    refine kg Ak Z (fun (o1:Str)=>⟨(nn x0 x1 [(14,(Sr o1))]),[(1,vS 4 (j8 a0)),(13,vS 4 (b8 o0))],161⟩) (rd 2 [(125,(V.ptr 13 0 3)),(126,(Sr o0.fSparse))] Z Z $ rs Z (j9 Z Z Z Z Z (ti k o0.fSparse) (.inl Z)) fun v1=>b7 Z) fun o1=>kdl wr Z (fun (o2:Str)=>(V2 a0 (cm o2 [(12,(I x1))]))) ?_ fun o2=>?_
    ·refine et (k0 (p:=32) (dk:=true) (t:=(nn x0 x1 [(14,(Sr o1))])) (σ:=[(1,vS 4 (j8 a0)),(13,vS 4 (b8 o0))]) (n:=161) Z (by decide) (by decide) Z) $ et (m8 (m:=3) (j:=3) (t':=(nn x0 x1 [(14,(Sr o1)),(128,(Sr x0)),(129,(Pt 13)),(130,(Sr o0.fName))])) Z Z Z) $ et (b5 (x:=(cat ([73,78,68,69,88,32]:Str) o0.fName)) (w:=fun v2=>(Sr v2)) Z Z Z Z Z (p9 Z Z Z)) $ j3 fun v2=>et (c8 (m:=0) (j:=4) (t':=(nn x0 x1 [(14,(Sr o1)),(128,(Sr x0)),(129,(Pt 13)),(130,(Sr o0.fName)),(131,(Sr v2))])) Z Z Z) $ et (b5 (x:=(cat v2 ([32]:Str))) (w:=fun v3=>(Sr v3)) Z Z Z Z Z (p9 Z Z Z)) $ j3 fun v3=>et (c8 (m:=4) (j:=9) (t':=(jk x0 x1 o1 o0.fName v2 v3 [(134,(i6 a0.fTypes)),(135,(V.ptr 13 0 1)),(136,(I o0.fType))])) Z Z Z) $ et (b5 (x:=(idx a0.fTypes o0.fType)) (w:=fun v4=>(Pr (d7 v4))) Z Z Z Z Z (j7 (e:=d7) Z Z Z underlying23 Z (by decide))) $ j3 fun v4=>et (c8 (m:=2) (j:=12) (t':=(jk x0 x1 o1 o0.fName v2 v3 [(134,(i6 a0.fTypes)),(135,(V.ptr 13 0 1)),(136,(I o0.fType)),(137,(Pr (d7 v4))),(138,(Pr (Sr v4.fName))),(139,(Sr v4.fName))])) Z Z Z) $ et (b5 (x:=(cat v3 v4.fName)) (w:=fun v5=>(Sr v5)) Z Z Z Z Z (p9 Z Z Z)) $ j3 fun v5=>et (c8 (m:=0) (j:=13) (t':=(jk x0 x1 o1 o0.fName v2 v3 [(134,(i6 a0.fTypes)),(135,(V.ptr 13 0 1)),(136,(I o0.fType)),(137,(Pr (d7 v4))),(138,(Pr (Sr v4.fName))),(139,(Sr v4.fName)),(140,(Sr v5))])) Z Z Z) $ et (b5 (x:=(cat v5 ([32]:Str))) (w:=fun v6=>(Sr v6)) Z Z Z Z Z (p9 Z Z Z)) $ j3 fun v6=>et (c8 (m:=4) (j:=18) (t':=(jk x0 x1 o1 o0.fName v2 v3 [(134,(i6 a0.fTypes)),(135,(V.ptr 13 0 1)),(136,(I o0.fType)),(137,(Pr (d7 v4))),(138,(Pr (Sr v4.fName))),(139,(Sr v4.fName)),(140,(Sr v5)),(141,(Sr v6)),(142,(V.ptr 1 0 2)),(143,(i6 a0.fTypes)),(144,(V.ptr 13 0 1)),(145,(I o0.fType))])) Z Z Z) $ et (b5 (x:=(idx a0.fTypes o0.fType)) (w:=fun v7=>(Pr (d7 v7))) Z Z Z Z Z (j7 (e:=d7) Z Z Z underlying23 Z (by decide))) $ j3 fun v7=>et (c8 (m:=4) (j:=23) (t':=(jk x0 x1 o1 o0.fName v2 v3 [(134,(i6 a0.fTypes)),(135,(V.ptr 13 0 1)),(136,(I o0.fType)),(137,(Pr (d7 v4))),(138,(Pr (Sr v4.fName))),(139,(Sr v4.fName)),(140,(Sr v5)),(141,(Sr v6)),(142,(V.ptr 1 0 2)),(143,(i6 a0.fTypes)),(144,(V.ptr 13 0 1)),(145,(I o0.fType)),(146,(Pr (d7 v7))),(147,(Pr (j4 v7.fFields))),(148,(j4 v7.fFields)),(149,(V.ptr 13 0 2)),(150,(I o0.fField))])) Z Z Z) $ et (b5 (x:=(idx v7.fFields o0.fField)) (w:=fun v8=>(Pr (d9 v8))) Z Z Z Z Z (j7 (e:=d9) Z Z Z underlying50 Z (by decide))) $ j3 fun v8=>et (c8 (m:=2) (j:=26) (t':=(jk x0 x1 o1 o0.fName v2 v3 [(134,(i6 a0.fTypes)),(135,(V.ptr 13 0 1)),(136,(I o0.fType)),(137,(Pr (d7 v4))),(138,(Pr (Sr v4.fName))),(139,(Sr v4.fName)),(140,(Sr v5)),(141,(Sr v6)),(142,(V.ptr 1 0 2)),(143,(i6 a0.fTypes)),(144,(V.ptr 13 0 1)),(145,(I o0.fType)),(146,(Pr (d7 v7))),(147,(Pr (j4 v7.fFields))),(148,(j4 v7.fFields)),(149,(V.ptr 13 0 2)),(150,(I o0.fField)),(151,(Pr (d9 v8))),(152,(Pr (Sr v8.fName))),(153,(Sr v8.fName))])) Z Z Z) $ et (b5 (x:=(cat v6 v8.fName)) (w:=fun v9=>(Sr v9)) Z Z Z Z Z (p9 Z Z Z)) $ j3 fun v9=>et (c8 (m:=0) (j:=27) (t':=(jk x0 x1 o1 o0.fName v2 v3 [(134,(i6 a0.fTypes)),(135,(V.ptr 13 0 1)),(136,(I o0.fType)),(137,(Pr (d7 v4))),(138,(Pr (Sr v4.fName))),(139,(Sr v4.fName)),(140,(Sr v5)),(141,(Sr v6)),(142,(V.ptr 1 0 2)),(143,(i6 a0.fTypes)),(144,(V.ptr 13 0 1)),(145,(I o0.fType)),(146,(Pr (d7 v7))),(147,(Pr (j4 v7.fFields))),(148,(j4 v7.fFields)),(149,(V.ptr 13 0 2)),(150,(I o0.fField)),(151,(Pr (d9 v8))),(152,(Pr (Sr v8.fName))),(153,(Sr v8.fName)),(154,(Sr v9))])) Z Z Z) $ et (b5 (x:=(cat v9 ([32]:Str))) (w:=fun va=>(Sr va)) Z Z Z Z Z (p9 Z Z Z)) $ j3 fun va=>et (c8 (m:=1) (j:=29) (t':=(jk x0 x1 o1 o0.fName v2 v3 [(134,(i6 a0.fTypes)),(135,(V.ptr 13 0 1)),(136,(I o0.fType)),(137,(Pr (d7 v4))),(138,(Pr (Sr v4.fName))),(139,(Sr v4.fName)),(140,(Sr v5)),(141,(Sr v6)),(142,(V.ptr 1 0 2)),(143,(i6 a0.fTypes)),(144,(V.ptr 13 0 1)),(145,(I o0.fType)),(146,(Pr (d7 v7))),(147,(Pr (j4 v7.fFields))),(148,(j4 v7.fFields)),(149,(V.ptr 13 0 2)),(150,(I o0.fField)),(151,(Pr (d9 v8))),(152,(Pr (Sr v8.fName))),(153,(Sr v8.fName)),(154,(Sr v9)),(155,(Sr va)),(156,(Sr o1))])) Z Z Z) $ et (b5 (x:=(cat va o1)) (w:=fun vb=>(Sr vb)) Z Z Z Z Z (p9 Z Z Z)) $ j3 fun vb=>et (c8 (m:=0) (j:=30) (t':=(jk x0 x1 o1 o0.fName v2 v3 [(134,(i6 a0.fTypes)),(135,(V.ptr 13 0 1)),(136,(I o0.fType)),(137,(Pr (d7 v4))),(138,(Pr (Sr v4.fName))),(139,(Sr v4.fName)),(140,(Sr v5)),(141,(Sr v6)),(142,(V.ptr 1 0 2)),(143,(i6 a0.fTypes)),(144,(V.ptr 13 0 1)),(145,(I o0.fType)),(146,(Pr (d7 v7))),(147,(Pr (j4 v7.fFields))),(148,(j4 v7.fFields)),(149,(V.ptr 13 0 2)),(150,(I o0.fField)),(151,(Pr (d9 v8))),(152,(Pr (Sr v8.fName))),(153,(Sr v8.fName)),(154,(Sr v9)),(155,(Sr va)),(156,(Sr o1)),(157,(Sr vb))])) Z Z Z) ?_
     exact et (b5 (x:=(cat vb ([10]:Str))) (w:=fun vc=>(Sr vc)) Z Z Z Z Z (p9 Z Z Z)) $ j3 fun vc=>et (c8 (m:=0) (j:=31) (t':=(jk x0 x1 o1 o0.fName v2 v3 [(134,(i6 a0.fTypes)),(135,(V.ptr 13 0 1)),(136,(I o0.fType)),(137,(Pr (d7 v4))),(138,(Pr (Sr v4.fName))),(139,(Sr v4.fName)),(140,(Sr v5)),(141,(Sr v6)),(142,(V.ptr 1 0 2)),(143,(i6 a0.fTypes)),(144,(V.ptr 13 0 1)),(145,(I o0.fType)),(146,(Pr (d7 v7))),(147,(Pr (j4 v7.fFields))),(148,(j4 v7.fFields)),(149,(V.ptr 13 0 2)),(150,(I o0.fField)),(151,(Pr (d9 v8))),(152,(Pr (Sr v8.fName))),(153,(Sr v8.fName)),(154,(Sr v9)),(155,(Sr va)),(156,(Sr o1)),(157,(Sr vb)),(158,(Sr vc))])) Z Z Z) $ et (b5 (x:=(cat x0 vc)) (w:=fun vd=>(Sr vd)) Z Z Z Z Z (p9 Z Z Z)) $ s8 fun vd=>u0 Z
    exact et j5 $ kl (V2 a0 (cm o2 [(12,(I (sqW (x1+1))))])) Z $ et j6 $ ih o2 (sqW (x1+1))
   ·rw [hc]
    refine et l6 $ kdl wr Z (fun (o3:Str)=>(V2 a0 (cm o3 [(12,(I x1))]))) ?_ fun o3=>?_
    ·refine et (k0 (p:=32) (dk:=true) (t:=(nn x0 x1 [(14,(Sr ([45]:Str))),(124,(Bo false))])) (σ:=[(1,vS 4 (j8 a0)),(13,vS 4 (b8 o0))]) (n:=161) Z (by decide) (by decide) Z) $ et (m8 (m:=3) (j:=3) (t':=(nn x0 x1 [(14,(Sr ([45]:Str))),(124,(Bo false)),(128,(Sr x0)),(129,(Pt 13)),(130,(Sr o0.fName))])) Z Z Z) $ et (b5 (x:=(cat ([73,78,68,69,88,32]:Str) o0.fName)) (w:=fun ve=>(Sr ve)) Z Z Z Z Z (p9 Z Z Z)) $ j3 fun ve=>et (c8 (m:=0) (j:=4) (t':=(nn x0 x1 [(14,(Sr ([45]:Str))),(124,(Bo false)),(128,(Sr x0)),(129,(Pt 13)),(130,(Sr o0.fName)),(131,(Sr ve))])) Z Z Z) $ et (b5 (x:=(cat ve ([32]:Str))) (w:=fun vf=>(Sr vf)) Z Z Z Z Z (p9 Z Z Z)) $ j3 fun vf=>et (c8 (m:=4) (j:=9) (t':=(ji x0 x1 o0.fName ve vf [(134,(i6 a0.fTypes)),(135,(V.ptr 13 0 1)),(136,(I o0.fType))])) Z Z Z) $ et (b5 (x:=(idx a0.fTypes o0.fType)) (w:=fun vg=>(Pr (d7 vg))) Z Z Z Z Z (j7 (e:=d7) Z Z Z underlying23 Z (by decide))) $ j3 fun vg=>et (c8 (m:=2) (j:=12) (t':=(ji x0 x1 o0.fName ve vf [(134,(i6 a0.fTypes)),(135,(V.ptr 13 0 1)),(136,(I o0.fType)),(137,(Pr (d7 vg))),(138,(Pr (Sr vg.fName))),(139,(Sr vg.fName))])) Z Z Z) $ et (b5 (x:=(cat vf vg.fName)) (w:=fun vh=>(Sr vh)) Z Z Z Z Z (p9 Z Z Z)) $ j3 fun vh=>et (c8 (m:=0) (j:=13) (t':=(ji x0 x1 o0.fName ve vf [(134,(i6 a0.fTypes)),(135,(V.ptr 13 0 1)),(136,(I o0.fType)),(137,(Pr (d7 vg))),(138,(Pr (Sr vg.fName))),(139,(Sr vg.fName)),(140,(Sr vh))])) Z Z Z) $ et (b5 (x:=(cat vh ([32]:Str))) (w:=fun vi=>(Sr vi)) Z Z Z Z Z (p9 Z Z Z)) $ j3 fun vi=>et (c8 (m:=4) (j:=18) (t':=(ji x0 x1 o0.fName ve vf [(134,(i6 a0.fTypes)),(135,(V.ptr 13 0 1)),(136,(I o0.fType)),(137,(Pr (d7 vg))),(138,(Pr (Sr vg.fName))),(139,(Sr vg.fName)),(140,(Sr vh)),(141,(Sr vi)),(142,(V.ptr 1 0 2)),(143,(i6 a0.fTypes)),(144,(V.ptr 13 0 1)),(145,(I o0.fType))])) Z Z Z) $ et (b5 (x:=(idx a0.fTypes o0.fType)) (w:=fun vj=>(Pr (d7 vj))) Z Z Z Z Z (j7 (e:=d7) Z Z Z underlying23 Z (by decide))) $ j3 fun vj=>et (c8 (m:=4) (j:=23) (t':=(ji x0 x1 o0.fName ve vf [(134,(i6 a0.fTypes)),(135,(V.ptr 13 0 1)),(136,(I o0.fType)),(137,(Pr (d7 vg))),(138,(Pr (Sr vg.fName))),(139,(Sr vg.fName)),(140,(Sr vh)),(141,(Sr vi)),(142,(V.ptr 1 0 2)),(143,(i6 a0.fTypes)),(144,(V.ptr 13 0 1)),(145,(I o0.fType)),(146,(Pr (d7 vj))),(147,(Pr (j4 vj.fFields))),(148,(j4 vj.fFields)),(149,(V.ptr 13 0 2)),(150,(I o0.fField))])) Z Z Z) $ et (b5 (x:=(idx vj.fFields o0.fField)) (w:=fun vk=>(Pr (d9 vk))) Z Z Z Z Z (j7 (e:=d9) Z Z Z underlying50 Z (by decide))) $ j3 fun vk=>et (c8 (m:=2) (j:=26) (t':=(ji x0 x1 o0.fName ve vf [(134,(i6 a0.fTypes)),(135,(V.ptr 13 0 1)),(136,(I o0.fType)),(137,(Pr (d7 vg))),(138,(Pr (Sr vg.fName))),(139,(Sr vg.fName)),(140,(Sr vh)),(141,(Sr vi)),(142,(V.ptr 1 0 2)),(143,(i6 a0.fTypes)),(144,(V.ptr 13 0 1)),(145,(I o0.fType)),(146,(Pr (d7 vj))),(147,(Pr (j4 vj.fFields))),(148,(j4 vj.fFields)),(149,(V.ptr 13 0 2)),(150,(I o0.fField)),(151,(Pr (d9 vk))),(152,(Pr (Sr vk.fName))),(153,(Sr vk.fName))])) Z Z Z) $ et (b5 (x:=(cat vi vk.fName)) (w:=fun vl=>(Sr vl)) Z Z Z Z Z (p9 Z Z Z)) $ j3 fun vl=>et (c8 (m:=0) (j:=27) (t':=(ji x0 x1 o0.fName ve vf [(134,(i6 a0.fTypes)),(135,(V.ptr 13 0 1)),(136,(I o0.fType)),(137,(Pr (d7 vg))),(138,(Pr (Sr vg.fName))),(139,(Sr vg.fName)),(140,(Sr vh)),(141,(Sr vi)),(142,(V.ptr 1 0 2)),(143,(i6 a0.fTypes)),(144,(V.ptr 13 0 1)),(145,(I o0.fType)),(146,(Pr (d7 vj))),(147,(Pr (j4 vj.fFields))),(148,(j4 vj.fFields)),(149,(V.ptr 13 0 2)),(150,(I o0.fField)),(151,(Pr (d9 vk))),(152,(Pr (Sr vk.fName))),(153,(Sr vk.fName)),(154,(Sr vl))])) Z Z Z) $ et (b5 (x:=(cat vl ([32]:Str))) (w:=fun vm=>(Sr vm)) Z Z Z Z Z (p9 Z Z Z)) $ j3 fun vm=>et (c8 (m:=1) (j:=29) (t':=(ji x0 x1 o0.fName ve vf [(134,(i6 a0.fTypes)),(135,(V.ptr 13 0 1)),(136,(I o0.fType)),(137,(Pr (d7 vg))),(138,(Pr (Sr vg.fName))),(139,(Sr vg.fName)),(140,(Sr vh)),(141,(Sr vi)),(142,(V.ptr 1 0 2)),(143,(i6 a0.fTypes)),(144,(V.ptr 13 0 1)),(145,(I o0.fType)),(146,(Pr (d7 vj))),(147,(Pr (j4 vj.fFields))),(148,(j4 vj.fFields)),(149,(V.ptr 13 0 2)),(150,(I o0.fField)),(151,(Pr (d9 vk))),(152,(Pr (Sr vk.fName))),(153,(Sr vk.fName)),(154,(Sr vl)),(155,(Sr vm)),(156,(Sr ([45]:Str)))])) Z Z Z) $ et (b5 (x:=(cat vm ([45]:Str))) (w:=fun vn=>(Sr vn)) Z Z Z Z Z (p9 Z Z Z)) $ j3 fun vn=>et (c8 (m:=0) (j:=30) (t':=(ji x0 x1 o0.fName ve vf [(134,(i6 a0.fTypes)),(135,(V.ptr 13 0 1)),(136,(I o0.fType)),(137,(Pr (d7 vg))),(138,(Pr (Sr vg.fName))),(139,(Sr vg.fName)),(140,(Sr vh)),(141,(Sr vi)),(142,(V.ptr 1 0 2)),(143,(i6 a0.fTypes)),(144,(V.ptr 13 0 1)),(145,(I o0.fType)),(146,(Pr (d7 vj))),(147,(Pr (j4 vj.fFields))),(148,(j4 vj.fFields)),(149,(V.ptr 13 0 2)),(150,(I o0.fField)),(151,(Pr (d9 vk))),(152,(Pr (Sr vk.fName))),(153,(Sr vk.fName)),(154,(Sr vl)),(155,(Sr vm)),(156,(Sr ([45]:Str))),(157,(Sr vn))])) Z Z Z) ?_
     exact et (b5 (x:=(cat vn ([10]:Str))) (w:=fun vo=>(Sr vo)) Z Z Z Z Z (p9 Z Z Z)) $ j3 fun vo=>et (c8 (m:=0) (j:=31) (t':=(ji x0 x1 o0.fName ve vf [(134,(i6 a0.fTypes)),(135,(V.ptr 13 0 1)),(136,(I o0.fType)),(137,(Pr (d7 vg))),(138,(Pr (Sr vg.fName))),(139,(Sr vg.fName)),(140,(Sr vh)),(141,(Sr vi)),(142,(V.ptr 1 0 2)),(143,(i6 a0.fTypes)),(144,(V.ptr 13 0 1)),(145,(I o0.fType)),(146,(Pr (d7 vj))),(147,(Pr (j4 vj.fFields))),(148,(j4 vj.fFields)),(149,(V.ptr 13 0 2)),(150,(I o0.fField)),(151,(Pr (d9 vk))),(152,(Pr (Sr vk.fName))),(153,(Sr vk.fName)),(154,(Sr vl)),(155,(Sr vm)),(156,(Sr ([45]:Str))),(157,(Sr vn)),(158,(Sr vo))])) Z Z Z) $ et (b5 (x:=(cat x0 vo)) (w:=fun vp=>(Sr vp)) Z Z Z Z Z (p9 Z Z Z)) $ s8 fun vp=>u0 Z
    exact et j5 $ kl (V2 a0 (cm o3 [(12,(I (sqW (x1+1))))])) Z $ et j6 $ ih o3 (sqW (x1+1))
  ·rw [hc]
   exact et C1 $ et s5 $ hK0 x0 x1
theorem ca (k:Nat) (a0:a8):EV k 11 [(j8 a0)]=(aJ k a0).map H9:=by
 cases k with
 | zero=>rfl
 | succ k=>
  unfold aJ
  refine et (l9 (c:=f11c) (N:=161) (regs:=Al) Z func11 Z (by decide) Z Z Z) $ kr (V2 a0 [(1,(Pt 1))]) Z $ et d4 $ kga DG Z (fun (o2:Bool)=>[(17,(Bo o2))]) (rd 1 [(15,(j8 a0))] Z Z $ rp Z (j9 Z Z Z Z Z (pK k a0) (.inl Z)) fun v1=>b7 Z) fun o2=>kc Z Z (fun hc=>?_) fun hc=>?_
  ·rw [hc]
   refine et d4 $ kr ⟨[(2,(Sr ([]:Str))),(3,(I 100))],[],161⟩ rfl $ et I4 ?_
   rfl
  ·rw [hc]
   refine et l6 $ kd DH Z (fun (o8:Str)=>(V2 a0 (cm o8 []))) (et (k0 (p:=10) (dk:=true) (t:=[(1,(Pt 1)),(17,(Bo false))]) (σ:=(Cr a0)) (n:=161) Z (by decide) (by decide) Z) $ et (m8 (m:=2) (j:=2) (t':=(uI a0.fName [])) Z Z Z) $ et (b5 (x:=(cat ([68,66,68,32]:Str) a0.fName)) (w:=fun v3=>(Sr v3)) Z Z Z Z Z (p9 Z Z Z)) $ j3 fun v3=>et (c8 (m:=0) (j:=3) (t':=(uI a0.fName [(20,(Sr v3))])) Z Z Z) $ et (b5 (x:=(cat v3 ([32]:Str))) (w:=fun v4=>(Sr v4)) Z Z Z Z Z (p9 Z Z Z)) $ j3 fun v4=>et (c8 (m:=2) (j:=6) (t':=(uI a0.fName [(20,(Sr v3)),(21,(Sr v4)),(22,(V.ptr 1 0 1)),(23,(I a0.fKind))])) Z Z Z) $ et (b5 (x:=(m9 k a0.fKind)) (w:=fun v5=>(Sr v5)) Z Z Z Z Z (j9 Z Z Z Z Z (B8 k a0.fKind) (.inl Z))) $ j3 fun v5=>et (c8 (m:=0) (j:=7) (t':=(uI a0.fName [(20,(Sr v3)),(21,(Sr v4)),(22,(V.ptr 1 0 1)),(23,(I a0.fKind)),(24,(Sr v5))])) Z Z Z) $ et (b5 (x:=(cat v4 v5)) (w:=fun v6=>(Sr v6)) Z Z Z Z Z (p9 Z Z Z)) $ j3 fun v6=>et (c8 (m:=0) (j:=8) (t':=(uI a0.fName [(20,(Sr v3)),(21,(Sr v4)),(22,(V.ptr 1 0 1)),(23,(I a0.fKind)),(24,(Sr v5)),(25,(Sr v6))])) Z Z Z) $ et (b5 (x:=(cat v6 ([10]:Str))) (w:=fun v7=>(Sr v7)) Z Z Z Z Z (p9 Z Z Z)) $ s8 fun v7=>u0 Z) fun o8=>et d4 $ kra [(5,(I 0))] Z $ et (l5 Z) $ et B0 ?_
   refine jJ k a0 _ _ ?h_ref11_Format_L1_0 ?hr_ref11_Format_L1 k o8 0
   ·intro y0 y1
    refine et r9 $ et d4 $ kr (V2 a0 (cm y0 [(12,(I 0))])) Z $ et (l5 Z) $ et B0 ?_
    refine jK k a0 _ _ ?h_ref11_Format_L6_0 ?hr_ref11_Format_L6 k y0 0
    ·intro y2 y3
     refine et r9 $ kr ⟨[(2,(Sr y2)),(3,(I 0))],[],161⟩ rfl $ et l7 ?_
     rfl
    ·intro s; exact rfl
   ·intro s; exact rfl
def nL:(a8×Int)→V×List V:=fun r=>(.tup [(j8 r.1),(I r.2)],[])
theorem dg (k:Nat) (a0:Str):EV k 7 [(Sr a0)]=(U9 k a0).map nL:=by
 cases k with
 | zero=>rfl
 | succ k=>
  unfold U9
  refine et (l9 (c:=f7c) (N:=28) (regs:=f7n) Z func7 Z (by decide) Z Z Z) $ kr ⟨[(0,(Sr a0)),(2,(Pt 2))],Cu,28⟩ rfl $ kg Jw Z (fun (o2:Bool×a8)=>(tv o2.2 (dR a0 [(5,(Bo o2.1))]))) (rd 1 [(9,(Sr a0))] Z Z $ rp Z (j9 Z Z Z Z Z (qE k a0) (.inl Z)) fun v1=>b7 Z) fun o2=>et d4 $ kr (tv o2.2 (dR a0 [(13,(Bo o2.1))])) Z $ kc Z Z (fun hc=>?_) fun hc=>?_
  ·rw [hc]
   refine et d4 $ kg Jx Z (fun (o4:Str×Int)=>(tv o2.2 (dR a0 [(6,(Sr o4.1)),(7,(I o4.2))]))) (rd 1 [(15,(j8 o2.2))] Z Z $ rp Z (j9 Z Z Z Z Z (ca k o2.2) (.inl Z)) fun v3=>b7 Z) fun o4=>et d4 $ kg Jy Z (fun (o5:Bool)=>(tv o2.2 [(2,(Pt 2)),(4,(Pt 4)),(25,(Bo o5))])) ?_ fun o5=>?_
   ·refine rd 3 [(19,(I o4.2)),(20,(Bo (o4.2 == 0))),(21,(Bo (o4.2 == 0)))] Z Z $ w8 (fun hc=>?_) fun hc=>?_
    ·rw [hc]
     exact d8 Z
    ·rw [hc]
     exact d8 Z
   refine kc Z Z (fun hc=>?_) fun hc=>?_
   ·rw [hc]
    refine et d4 $ kr ⟨[(2,(Pt 2)),(3,(I 0))],[(2,vS 4 (j8 o2.2))],28⟩ rfl $ et I4 ?_
    rfl
   ·rw [hc]
    refine et l6 $ kr ⟨(pZ []),(rM ({ fName:=[],fKind:=0,fTypes:=([]:List a6),fIndexes:=([]:List b4) }:a8)),28⟩ rfl $ et l7 ?_
    rfl
  ·rw [hc]
   refine et l6 $ kr ⟨(pZ []),(rM ({ fName:=[],fKind:=0,fTypes:=([]:List a6),fIndexes:=([]:List b4) }:a8)),28⟩ rfl $ et l7 ?_
   rfl
def M2:Bool→V×List V:=fun r=>((Bo r),[])
theorem mv (k:Nat) (a0:a8) (a1:a8) (x0:Int) (o0:a6×a6)  (K0:Int→Option Bool) (Kst:X×St→Option (V×List V)) (hK0:∀ (y0:Int),Kst (X.exit 2,(ka a0 a1 o0.1 o0.2 (ik x0 [(8,(I y0)),(117,(Bo false))])))=(K0 y0).map M2) (hret:∀ s,Kst (X.ret,s)=P5 prog 149 [(j8 a0),(j8 a1)] [] [.tmp 4] (X.ret,s)):
  ∀ (m:Nat) (x1:Int),(L6 (C5 prog (EV k) f8n k JD) m (ka a0 a1 o0.1 o0.2 (ik x0 [(8,(I x1))]))).bind Kst=(L3 o0 K0 m x1).map M2:=by
 intro m
 induction m with
 | zero=>intros; rfl
 | succ m ih=>
  intro x1
  unfold L3
  refine et A6 $ et d4 $ krp GS Z (ka a0 a1 o0.1 o0.2 (ik x0 [(8,(I x1)),(117,(Bo (decide (x1 < (o0.1.fFields.length:Int)))))])) ?_ ?_
  ·exact rd 3 [(113,(I x1)),(114,(V.ptr 6 0 4)),(115,(j4 o0.1.fFields))] Z Z $ rl Z (A8 (e:=d9) Z Z Z Z Z Z underlying50) $ b7 Z
  refine kc Z Z (fun hc=>?_) fun hc=>?_
  ·rw [hc]
   refine et l6 $ et (l5 Z) $ kd GT Z (fun (o1:Bool)=>(ka a0 a1 o0.1 o0.2 (ik x0 [(8,(I x1)),(130,(Bo o1))]))) (et (k0 (p:=11) (dk:=true) (t:=(ik x0 [(8,(I x1)),(117,(Bo true))])) (σ:=(Hs a0 a1 o0.1 o0.2)) (n:=149) Z (by decide) (by decide) Z) $ et (m8 (m:=3) (j:=3) (t':=(ik x0 [(8,(I x1)),(117,(Bo true)),(120,(V.ptr 6 0 4)),(121,(j4 o0.1.fFields)),(122,(I x1))])) Z Z Z) $ et (b5 (x:=(idx o0.1.fFields x1)) (w:=fun v0=>(Pr (d9 v0))) Z Z Z Z Z (j7 (e:=d9) Z Z Z underlying50 Z (by decide))) $ j3 fun v0=>et (c8 (m:=4) (j:=8) (t':=(ik x0 [(8,(I x1)),(117,(Bo true)),(120,(V.ptr 6 0 4)),(121,(j4 o0.1.fFields)),(122,(I x1)),(123,(Pr (d9 v0))),(124,(d9 v0)),(125,(V.ptr 7 0 4)),(126,(j4 o0.2.fFields)),(127,(I x1))])) Z Z Z) $ et (b5 (x:=(idx o0.2.fFields x1)) (w:=fun v1=>(Pr (d9 v1))) Z Z Z Z Z (j7 (e:=d9) Z Z Z underlying50 Z (by decide))) $ j3 fun v1=>et (c8 (m:=1) (j:=10) (t':=(ik x0 [(8,(I x1)),(117,(Bo true)),(120,(V.ptr 6 0 4)),(121,(j4 o0.1.fFields)),(122,(I x1)),(123,(Pr (d9 v0))),(124,(d9 v0)),(125,(V.ptr 7 0 4)),(126,(j4 o0.2.fFields)),(127,(I x1)),(128,(Pr (d9 v1))),(129,(d9 v1))])) Z Z Z) $ et (b5 (x:=some ()) (w:=fun _=>(Bo (!(v0.fName == v1.fName && (v0.fAt == v1.fAt && (v0.fBytes == v1.fBytes && true)))))) Z Z Z Z Z (Hg Z Z Z underlying54 JR IE Z)) $ et x9 $ u0 Z) fun o1=>kcl Z Z (fun hc=>?_) fun hc=>?_
   ·rw [hc]
    refine kr (pU (dw [])) Z $ et l7 $ et u6 $ et A0 $ et (hret _) ?_
    rfl
   ·rw [hc]
    exact et w6 $ et j5 $ kl (ka a0 a1 o0.1 o0.2 (ik x0 [(8,(I (sqW (x1+1))))])) Z $ et j6 $ ih (sqW (x1+1))
  ·rw [hc]
   exact et C1 $ et s5 $ hK0 x1
theorem mu (k:Nat) (a0:a8) (a1:a8)  (K0:Int→Option Bool) (Kst:X×St→Option (V×List V)) (hK0:∀ (y0:Int),Kst (X.exit 0,(ch a0 a1 (aR [(5,(I y0)),(44,(Bo false))])))=(K0 y0).map M2) (hret:∀ s,Kst (X.ret,s)=P5 prog 149 [(j8 a0),(j8 a1)] [] [.tmp 4] (X.ret,s)):
  ∀ (m:Nat) (x0:Int),(L6 (C5 prog (EV k) f8n k JE) m (ch a0 a1 (aR [(5,(I x0))]))).bind Kst=(K9 k a0 a1 K0 m x0).map M2:=by
 intro m
 induction m with
 | zero=>intros; rfl
 | succ m ih=>
  intro x0
  unfold K9
  refine et A6 $ et d4 $ krp JA Z (ch a0 a1 (aR [(5,(I x0)),(44,(Bo (decide (x0 < (a0.fTypes.length:Int)))))])) ?_ ?_
  ·exact rd 3 [(40,(I x0)),(41,(V.ptr 2 0 2)),(42,(i6 a0.fTypes))] Z Z $ rl Z (A8 (e:=d7) Z Z Z Z Z Z underlying23) $ b7 Z
  refine kc Z Z (fun hc=>?_) fun hc=>?_
  ·rw [hc]
   refine et l6 $ et (l5 Z) $ kd JB Z (fun (o0:a6×a6)=>(ka a0 a1 o0.1 o0.2 (ik x0 []))) (et (k0 (p:=12) (dk:=false) (t:=(aR [(5,(I x0)),(44,(Bo true))])) (σ:=(Cz a0 a1)) (n:=149) Z (by decide) (by decide) Z) $ et (m8 (m:=3) (j:=3) (t':=(aR [(5,(I x0)),(44,(Bo true)),(47,(V.ptr 2 0 2)),(48,(i6 a0.fTypes)),(49,(I x0))])) Z Z Z) $ et (b5 (x:=(idx a0.fTypes x0)) (w:=fun v0=>(Pr (d7 v0))) Z Z Z Z Z (j7 (e:=d7) Z Z Z underlying23 Z (by decide))) $ j3 fun v0=>et (c8 (m:=4) (j:=8) (t':=(aR [(5,(I x0)),(44,(Bo true)),(47,(V.ptr 2 0 2)),(48,(i6 a0.fTypes)),(49,(I x0)),(50,(Pr (d7 v0))),(51,(d7 v0)),(52,(V.ptr 3 0 2)),(53,(i6 a1.fTypes)),(54,(I x0))])) Z Z Z) $ et (b5 (x:=(idx a1.fTypes x0)) (w:=fun v1=>(Pr (d7 v1))) Z Z Z Z Z (j7 (e:=d7) Z Z Z underlying23 Z (by decide))) $ j3 fun v1=>u0 Z) fun o0=>et d4 $ kga JC Z (fun (o1:Bool)=>[(112,(Bo o1))]) ?_ fun o1=>?_
   ·refine rd 6 [(57,(Pt 6)),(58,(Sr o0.1.fName)),(59,(Pt 7)),(60,(Sr o0.2.fName)),(61,(Bo (!(o0.1.fName == o0.2.fName)))),(62,(Bo (!(o0.1.fName == o0.2.fName))))] Z Z $ w8 (fun hc=>?_) fun hc=>?_
    ·rw [hc]
     exact d8 Z
    ·rw [hc]
     refine rd 13 [(63,(V.ptr 6 0 1)),(64,(I o0.1.fParent)),(65,(V.ptr 7 0 1)),(66,(I o0.2.fParent)),(67,(Bo (o0.1.fParent != o0.2.fParent))),(68,(Bo (o0.1.fParent != o0.2.fParent))),(69,(Bo (o0.1.fParent != o0.2.fParent)))] Z Z $ w8 (fun hc=>?_) fun hc=>?_
     ·rw [hc]
      exact d8 Z
     ·rw [hc]
      refine rd 20 [(70,(V.ptr 6 0 2)),(71,(I o0.1.fMin)),(72,(V.ptr 7 0 2)),(73,(I o0.2.fMin)),(74,(Bo (o0.1.fMin != o0.2.fMin))),(75,(Bo (o0.1.fMin != o0.2.fMin))),(76,(Bo (o0.1.fMin != o0.2.fMin)))] Z Z $ w8 (fun hc=>?_) fun hc=>?_
      ·rw [hc]
       exact d8 Z
      ·rw [hc]
       refine rd 27 [(77,(V.ptr 6 0 3)),(78,(I o0.1.fSize)),(79,(V.ptr 7 0 3)),(80,(I o0.2.fSize)),(81,(Bo (o0.1.fSize != o0.2.fSize))),(82,(Bo (o0.1.fSize != o0.2.fSize))),(83,(Bo (o0.1.fSize != o0.2.fSize)))] Z Z $ w8 (fun hc=>?_) fun hc=>?_
       ·rw [hc]
        exact d8 Z
       ·rw [hc]
        refine rd 34 [(84,(V.ptr 6 0 5)),(85,(I o0.1.fKey)),(86,(V.ptr 7 0 5)),(87,(I o0.2.fKey)),(88,(Bo (o0.1.fKey != o0.2.fKey))),(89,(Bo (o0.1.fKey != o0.2.fKey))),(90,(Bo (o0.1.fKey != o0.2.fKey)))] Z Z $ w8 (fun hc=>?_) fun hc=>?_
        ·rw [hc]
         exact d8 Z
        ·rw [hc]
         refine rd 41 [(91,(V.ptr 6 0 6)),(92,(Bo o0.1.fUnique)),(93,(V.ptr 7 0 6)),(94,(Bo o0.2.fUnique)),(95,(Bo (!(o0.1.fUnique == o0.2.fUnique)))),(96,(Bo (!(o0.1.fUnique == o0.2.fUnique)))),(97,(Bo (!(o0.1.fUnique == o0.2.fUnique))))] Z Z $ w8 (fun hc=>?_) fun hc=>?_
         ·rw [hc]
          exact d8 Z
         ·rw [hc]
          refine rd 48 [(98,(V.ptr 6 0 7)),(99,(Bo o0.1.fLast)),(100,(V.ptr 7 0 7)),(101,(Bo o0.2.fLast)),(102,(Bo (!(o0.1.fLast == o0.2.fLast)))),(103,(Bo (!(o0.1.fLast == o0.2.fLast)))),(104,(Bo (!(o0.1.fLast == o0.2.fLast))))] Z Z $ w8 (fun hc=>?_) fun hc=>?_
          ·rw [hc]
           exact d8 Z
          ·rw [hc]
           exact rd 50 [(105,(V.ptr 6 0 4)),(106,(j4 o0.1.fFields))] Z Z $ rl Z (A8 (e:=d9) Z Z Z Z Z Z underlying50) $ bd 53 [(107,(I (o0.1.fFields.length:Int))),(108,(V.ptr 7 0 4)),(109,(j4 o0.2.fFields))] Z Z $ rl Z (A8 (e:=d9) Z Z Z Z Z Z underlying50) $ b7 Z
   refine kc Z Z (fun hc=>?_) fun hc=>?_
   ·rw [hc]
    refine et d4 $ kr (pU (dw [])) Z $ et I4 $ et u6 $ et A0 $ et (hret _) ?_
    rfl
   ·rw [hc]
    refine et l6 $ kr (ka a0 a1 o0.1 o0.2 (ik x0 [(8,(I 0))])) Z $ et (Q0 Z) $ et B0 ?_
    refine mv k a0 a1 x0 o0 _ _ ?h_ref11_Same_L2_0 ?hr_ref11_Same_L2 k 0
    ·intro y1
     exact et r9 $ et w6 $ et j5 $ kl (ch a0 a1 (aR [(5,(I (sqW (x0+1))))])) Z $ et j6 $ ih (sqW (x0+1))
    ·intro s; exact hret s
  ·rw [hc]
   exact et C1 $ et s5 $ hK0 x0
theorem mw (k:Nat) (a0:a8) (a1:a8)  (K0:Int→Option Bool) (Kst:X×St→Option (V×List V)) (hK0:∀ (y0:Int),Kst (X.exit 4,(ch a0 a1 (aR [(9,(I y0)),(135,(Bo false))])))=(K0 y0).map M2) (hret:∀ s,Kst (X.ret,s)=P5 prog 149 [(j8 a0),(j8 a1)] [] [.tmp 4] (X.ret,s)):
  ∀ (m:Nat) (x0:Int),(L6 (C5 prog (EV k) f8n k JF) m (ch a0 a1 (aR [(9,(I x0))]))).bind Kst=(L4 a0 a1 K0 m x0).map M2:=by
 intro m
 induction m with
 | zero=>intros; rfl
 | succ m ih=>
  intro x0
  unfold L4
  refine et A6 $ et d4 $ krp GU Z (ch a0 a1 (aR [(9,(I x0)),(135,(Bo (decide (x0 < (a0.fIndexes.length:Int)))))])) ?_ ?_
  ·exact rd 3 [(131,(I x0)),(132,(V.ptr 2 0 3)),(133,(i8 a0.fIndexes))] Z Z $ rl Z (A8 (e:=b8) Z Z Z Z Z Z underlying24) $ b7 Z
  refine kc Z Z (fun hc=>?_) fun hc=>?_
  ·rw [hc]
   refine et l6 $ et (l5 Z) $ kd GV Z (fun (o0:Bool)=>(ch a0 a1 (aR [(9,(I x0)),(148,(Bo o0))]))) (et (k0 (p:=11) (dk:=true) (t:=(aR [(9,(I x0)),(135,(Bo true))])) (σ:=(Cz a0 a1)) (n:=149) Z (by decide) (by decide) Z) $ et (m8 (m:=3) (j:=3) (t':=(aR [(9,(I x0)),(135,(Bo true)),(138,(V.ptr 2 0 3)),(139,(i8 a0.fIndexes)),(140,(I x0))])) Z Z Z) $ et (b5 (x:=(idx a0.fIndexes x0)) (w:=fun v0=>(Pr (b8 v0))) Z Z Z Z Z (j7 (e:=b8) Z Z Z underlying24 Z (by decide))) $ j3 fun v0=>et (c8 (m:=4) (j:=8) (t':=(aR [(9,(I x0)),(135,(Bo true)),(138,(V.ptr 2 0 3)),(139,(i8 a0.fIndexes)),(140,(I x0)),(141,(Pr (b8 v0))),(142,(b8 v0)),(143,(V.ptr 3 0 3)),(144,(i8 a1.fIndexes)),(145,(I x0))])) Z Z Z) $ et (b5 (x:=(idx a1.fIndexes x0)) (w:=fun v1=>(Pr (b8 v1))) Z Z Z Z Z (j7 (e:=b8) Z Z Z underlying24 Z (by decide))) $ j3 fun v1=>et (c8 (m:=1) (j:=10) (t':=(aR [(9,(I x0)),(135,(Bo true)),(138,(V.ptr 2 0 3)),(139,(i8 a0.fIndexes)),(140,(I x0)),(141,(Pr (b8 v0))),(142,(b8 v0)),(143,(V.ptr 3 0 3)),(144,(i8 a1.fIndexes)),(145,(I x0)),(146,(Pr (b8 v1))),(147,(b8 v1))])) Z Z Z) $ et (b5 (x:=some ()) (w:=fun _=>(Bo (!(v0.fName == v1.fName && (v0.fType == v1.fType && (v0.fField == v1.fField && (v0.fSparse == v1.fSparse && true))))))) Z Z Z Z Z (Hg Z Z Z underlying56 JS IF Z)) $ et x9 $ u0 Z) fun o0=>kcl Z Z (fun hc=>?_) fun hc=>?_
   ·rw [hc]
    refine kr (pU (dw [])) Z $ et l7 $ et u6 $ et A0 $ et (hret _) ?_
    rfl
   ·rw [hc]
    exact et w6 $ et j5 $ kl (ch a0 a1 (aR [(9,(I (sqW (x0+1))))])) Z $ et j6 $ ih (sqW (x0+1))
  ·rw [hc]
   exact et C1 $ et s5 $ hK0 x0
theorem qC (k:Nat) (a0:a8) (a1:a8):EV k 8 [(j8 a0),(j8 a1)]=(dh k a0 a1).map M2:=by
 cases k with
 | zero=>rfl
 | succ k=>
  unfold dh
  refine et (l9 (c:=f8c) (N:=149) (regs:=f8n) Z func8 Z (by decide) Z Z Z) $ kr (ch a0 a1 (aR [])) Z $ et d4 $ kga Jz Z (fun (o1:Bool)=>[(39,(Bo o1))]) ?_ fun o1=>?_
  ·refine rd 6 [(10,(Pt 2)),(11,(Sr a0.fName)),(12,(Pt 3)),(13,(Sr a1.fName)),(14,(Bo (!(a0.fName == a1.fName)))),(15,(Bo (!(a0.fName == a1.fName))))] Z Z $ w8 (fun hc=>?_) fun hc=>?_
   ·rw [hc]
    exact d8 Z
   ·rw [hc]
    refine rd 13 [(16,(V.ptr 2 0 1)),(17,(I a0.fKind)),(18,(V.ptr 3 0 1)),(19,(I a1.fKind)),(20,(Bo (a0.fKind != a1.fKind))),(21,(Bo (a0.fKind != a1.fKind))),(22,(Bo (a0.fKind != a1.fKind)))] Z Z $ w8 (fun hc=>?_) fun hc=>?_
    ·rw [hc]
     exact d8 Z
    ·rw [hc]
     refine rd 15 [(23,(V.ptr 2 0 2)),(24,(i6 a0.fTypes))] Z Z $ rl Z (A8 (e:=d7) Z Z Z Z Z Z underlying23) $ bd 18 [(25,(I (a0.fTypes.length:Int))),(26,(V.ptr 3 0 2)),(27,(i6 a1.fTypes))] Z Z $ rl Z (A8 (e:=d7) Z Z Z Z Z Z underlying23) $ bd 22 (Ht (a1.fTypes.length:Int) ((a0.fTypes.length:Int) != (a1.fTypes.length:Int)) []) Z Z $ w8 (fun hc=>?_) fun hc=>?_
     ·rw [hc]
      exact d8 Z
     ·rw [hc]
      exact rd 24 [(32,(V.ptr 2 0 3)),(33,(i8 a0.fIndexes))] Z Z $ rl Z (A8 (e:=b8) Z Z Z Z Z Z underlying24) $ bd 27 [(34,(I (a0.fIndexes.length:Int))),(35,(V.ptr 3 0 3)),(36,(i8 a1.fIndexes))] Z Z $ rl Z (A8 (e:=b8) Z Z Z Z Z Z underlying24) $ b7 Z
  refine kc Z Z (fun hc=>?_) fun hc=>?_
  ·rw [hc]
   refine et d4 $ kr (pU (dw [])) Z $ et I4 ?_
   rfl
  ·rw [hc]
   refine et l6 $ et d4 $ kr (ch a0 a1 (aR [(5,(I 0))])) Z $ et (l5 Z) $ et B0 ?_
   refine mu k a0 a1 _ _ ?h_ref11_Same_L1_0 ?hr_ref11_Same_L1 k 0
   ·intro y0
    refine et r9 $ et d4 $ kr (ch a0 a1 (aR [(9,(I 0))])) Z $ et (l5 Z) $ et B0 ?_
    refine mw k a0 a1 _ _ ?h_ref11_Same_L3_0 ?hr_ref11_Same_L3 k 0
    ·intro y1
     refine et r9 $ kr (pU [(4,(Bo true))]) Z $ et l7 ?_
     rfl
    ·intro s; exact rfl
   ·intro s; exact rfl
def iM:Bool→V×List V:=fun r=>((Bo r),[])
theorem jE (k:Nat) (a0:Str):EV k 3 [(Sr a0)]=(Y6 k a0).map iM:=by
 cases k with
 | zero=>rfl
 | succ k=>
  unfold Y6
  refine et (l9 (c:=f3c) (N:=47) (regs:=f3n) Z func3 Z (by decide) Z Z Z) $ kra [] Z $ et d4 $ kra [(11,(Bo (decide ((a0.length:Int) > 3000))))] Z $ kc Z Z (fun hc=>?_) fun hc=>?_
  ·rw [hc]
   refine et d4 $ kg IP Z (fun (o2:Bool)=>(X0 [(2,(Bo o2))])) (rs Z (j9 Z Z Z Z Z (da k) (.inl Z)) fun v1=>b7 Z) fun o2=>et I4 ?_
   rfl
  ·rw [hc]
   refine et l6 $ kg IQ Z (fun (o4:Int×a8)=>⟨[(0,(Sr a0)),(3,(Pt 3)),(4,(I o4.1))],[(3,vS 4 (j8 o4.2))],47⟩) (rd 1 [(14,(Sr a0))] Z Z $ rp Z (j9 Z Z Z Z Z (eY k a0) (.inl Z)) fun v3=>b7 Z) fun o4=>kg IR Z (fun (o6:Int×a8)=>⟨[(0,(Sr a0)),(3,(Pt 3)),(4,(I o4.1)),(5,(Pt 5)),(6,(I o6.1))],[(3,vS 4 (j8 o4.2)),(5,vS 4 (j8 o6.2))],47⟩) (rd 1 [(19,(Sr a0))] Z Z $ rp Z (j9 Z Z Z Z Z (dg k a0) (.inl Z)) fun v5=>b7 Z) fun o6=>et d4 $ kg IU Z (fun (o8:Bool)=>⟨[(0,(Sr a0)),(3,(Pt 3)),(4,(I o4.1)),(31,(Bo o8))],[(3,vS 4 (j8 o4.2))],47⟩) ?_ fun o8=>?_
   ·refine rd 2 [(23,(j8 o4.2)),(24,(j8 o6.2))] Z Z $ rp Z (j9 Z Z Z Z Z (qC k o4.2 o6.2) (.inl Z)) fun v7=>bd 5 [(25,(Bo v7)),(26,(Bo (!v7))),(27,(Bo (!v7)))] Z Z $ w8 (fun hc=>?_) fun hc=>?_
    ·rw [hc]
     exact d8 Z
    ·rw [hc]
     exact d8 Z
   refine kc Z Z (fun hc=>?_) fun hc=>?_
   ·rw [hc]
    refine et d4 $ kr (X0 (am [])) Z $ et I4 ?_
    rfl
   ·rw [hc]
    refine et l6 $ et d4 $ kr ⟨[(0,(Sr a0)),(3,(Pt 3)),(33,(Bo (o4.1 == 0)))],[(3,vS 4 (j8 o4.2))],47⟩ rfl $ kc Z Z (fun hc=>?_) fun hc=>?_
    ·rw [hc]
     refine et d4 $ kg IV Z (fun (o0:Str×Int)=>(X0 [(0,(Sr a0)),(7,(Sr o0.1)),(8,(I o0.2))])) (rd 1 [(35,(j8 o4.2))] Z Z $ rp Z (j9 Z Z Z Z Z (S6 k o4.2) (.inl Z)) fun v9=>b7 Z) fun o0=>et d4 $ kg IW Z (fun (o1:Bool)=>(X0 [(45,(Bo o1))])) ?_ fun o1=>?_
     ·refine rd 3 [(39,(I o0.2)),(40,(Bo (o0.2 != 0))),(41,(Bo (o0.2 != 0)))] Z Z $ w8 (fun hc=>?_) fun hc=>?_
      ·rw [hc]
       exact d8 Z
      ·rw [hc]
       exact d8 Z
     refine kc Z Z (fun hc=>?_) fun hc=>?_
     ·rw [hc]
      refine et d4 $ kr (X0 (am [])) Z $ et I4 ?_
      rfl
     ·rw [hc]
      refine et l6 $ kg Bg Z (fun (o3:Bool)=>(X0 [(2,(Bo o3))])) (rs Z (j9 Z Z Z Z Z (da k) (.inl Z)) fun v0=>b7 Z) fun o3=>et l7 ?_
      rfl
    ·rw [hc]
     refine et l6 $ kg Bg Z (fun (o5:Bool)=>(X0 [(2,(Bo o5))])) (rs Z (j9 Z Z Z Z Z (da k) (.inl Z)) fun v2=>b7 Z) fun o5=>et l7 ?_
     rfl
end
end Go.AE
