/- The program, function by function: the evaluator comes to the typed functions. Conditions: none. -/
import Derived.Test.YtcfnmbmmncmjiaaGreatDoorA3
import Derived.KernelRfl
import Derived.Test.YtcfnmbmmncmjiaaGreatDoorProg
import Derived.Test.YtcfnmbmmncmjiaaGreatDoorB1
import Derived.Test.YtcfnmbmmncmjiaaGreatDoorE1
set_option linter.unusedSimpArgs false
set_option linter.unusedVariables false
namespace Go.AE
open Go.Proofs.Tryz Go.Sh
set_option maxRecDepth 100000
set_option maxHeartbeats 4000000
noncomputable section
theorem jg (k:Nat) (a0:a6)  (K0:Str→Int→Option (Str×Int)) (Kst:X×St→Option (V×List V)) (hK0:∀ (y0:Str) (y1:Int),Kst (X.exit 4,(bw a0 (bT y0 [(12,(I y1)),(114,(Bo false))])))=(K0 y0 y1).map H7) (hret:∀ s,Kst (X.ret,s)=R6 prog 161 [(j5 a0)] [] [.tmp 2,.tmp 3] (X.ret,s)):
  ∀ (m:Nat) (x0:Str) (x1:Int),(M9 (D0 prog (EV k) yG k BI) m (bw a0 (bT x0 [(12,(I x1))]))).bind Kst=(G8 k a0 K0 m x0 x1).map H7:=by
 intro m
 induction m with
 | zero=>intros; rfl
 | succ m ih=>
  intro x0 x1
  unfold G8
  refine et A5 $ et d8 $ krp yD Z (bw a0 (bT x0 [(12,(I x1)),(114,(Bo (decide (x1 < (a0.fIndexes.length:Int)))))])) ?_ ?_
  ·exact rd 3 [(110,(I x1)),(111,(V.ptr 1 0 3)),(112,(i8 a0.fIndexes))] Z Z $ rl Z (w7 (e:=d7) Z Z Z Z Z Z underlying24) $ b6 Z
  refine kc Z Z (fun hc=>?_) fun hc=>?_
  ·rw [hc]
   refine et l7 $ et (l6 Z) $ kg yE Z (fun (o0:a8)=>⟨(mw x0 x1 []),[(1,vS 4 (j5 a0)),(13,vS 4 (d7 o0))],161⟩) (rd 3 [(117,(V.ptr 1 0 3)),(118,(i8 a0.fIndexes)),(119,(I x1))] Z Z $ rs Z (j6 (e:=d7) Z Z Z underlying24 Z (by decide)) fun v0=>b6 Z) fun o0=>kra [(14,(Sr ([45]:Str)))] Z $ et d8 $ kra [(124,(Bo (!(o0.fSparse == ([]:Str)))))] Z $ kc Z Z (fun hc=>?_) fun hc=>?_
   ·rw [hc]
    refine kg yF Z (fun (o1:Str)=>⟨(mw x0 x1 [(14,(Sr o1))]),[(1,vS 4 (j5 a0)),(13,vS 4 (d7 o0))],161⟩) (rd 2 [(125,(V.ptr 13 0 3)),(126,(Sr o0.fSparse))] Z Z $ rs Z (j9 Z Z Z Z Z (rA k o0.fSparse) (.inl Z)) fun v1=>b6 Z) fun o1=>kdl uk Z (fun (o2:Str)=>(bw a0 (bT o2 [(12,(I x1))]))) ?_ fun o2=>?_
    ·refine et (k0 (p:=32) (dk:=true) (t:=(mw x0 x1 [(14,(Sr o1))])) (σ:=[(1,vS 4 (j5 a0)),(13,vS 4 (d7 o0))]) (n:=161) Z (by decide) (by decide) Z) $ et (l9 (m:=3) (j:=3) (t':=(mw x0 x1 [(14,(Sr o1)),(128,(Sr x0)),(129,(Pt 13)),(130,(Sr o0.fName))])) Z Z Z) $ et (b4 (x:=(cat ([73,78,68,69,88,32]:Str) o0.fName)) (w:=fun v2=>(Sr v2)) Z Z Z Z Z (m8 Z Z Z)) $ j2 fun v2=>et (b9 (m:=0) (j:=4) (t':=(mw x0 x1 [(14,(Sr o1)),(128,(Sr x0)),(129,(Pt 13)),(130,(Sr o0.fName)),(131,(Sr v2))])) Z Z Z) $ et (b4 (x:=(cat v2 ([32]:Str))) (w:=fun v3=>(Sr v3)) Z Z Z Z Z (m8 Z Z Z)) $ j2 fun v3=>et (b9 (m:=4) (j:=9) (t':=(iG x0 x1 o1 o0.fName v2 v3 [(134,(d4 a0.fTypes)),(135,(V.ptr 13 0 1)),(136,(I o0.fType))])) Z Z Z) $ et (b4 (x:=(idx a0.fTypes o0.fType)) (w:=fun v4=>(Pr (d9 v4))) Z Z Z Z Z (j6 (e:=d9) Z Z Z underlying23 Z (by decide))) $ j2 fun v4=>et (b9 (m:=2) (j:=12) (t':=(iG x0 x1 o1 o0.fName v2 v3 [(134,(d4 a0.fTypes)),(135,(V.ptr 13 0 1)),(136,(I o0.fType)),(137,(Pr (d9 v4))),(138,(Pr (Sr v4.fName))),(139,(Sr v4.fName))])) Z Z Z) $ et (b4 (x:=(cat v3 v4.fName)) (w:=fun v5=>(Sr v5)) Z Z Z Z Z (m8 Z Z Z)) $ j2 fun v5=>et (b9 (m:=0) (j:=13) (t':=(iG x0 x1 o1 o0.fName v2 v3 [(134,(d4 a0.fTypes)),(135,(V.ptr 13 0 1)),(136,(I o0.fType)),(137,(Pr (d9 v4))),(138,(Pr (Sr v4.fName))),(139,(Sr v4.fName)),(140,(Sr v5))])) Z Z Z) $ et (b4 (x:=(cat v5 ([32]:Str))) (w:=fun v6=>(Sr v6)) Z Z Z Z Z (m8 Z Z Z)) $ j2 fun v6=>et (b9 (m:=4) (j:=18) (t':=(iG x0 x1 o1 o0.fName v2 v3 [(134,(d4 a0.fTypes)),(135,(V.ptr 13 0 1)),(136,(I o0.fType)),(137,(Pr (d9 v4))),(138,(Pr (Sr v4.fName))),(139,(Sr v4.fName)),(140,(Sr v5)),(141,(Sr v6)),(142,(V.ptr 1 0 2)),(143,(d4 a0.fTypes)),(144,(V.ptr 13 0 1)),(145,(I o0.fType))])) Z Z Z) $ et (b4 (x:=(idx a0.fTypes o0.fType)) (w:=fun v7=>(Pr (d9 v7))) Z Z Z Z Z (j6 (e:=d9) Z Z Z underlying23 Z (by decide))) $ j2 fun v7=>et (b9 (m:=4) (j:=23) (t':=(iG x0 x1 o1 o0.fName v2 v3 [(134,(d4 a0.fTypes)),(135,(V.ptr 13 0 1)),(136,(I o0.fType)),(137,(Pr (d9 v4))),(138,(Pr (Sr v4.fName))),(139,(Sr v4.fName)),(140,(Sr v5)),(141,(Sr v6)),(142,(V.ptr 1 0 2)),(143,(d4 a0.fTypes)),(144,(V.ptr 13 0 1)),(145,(I o0.fType)),(146,(Pr (d9 v7))),(147,(Pr (c8 v7.fFields))),(148,(c8 v7.fFields)),(149,(V.ptr 13 0 2)),(150,(I o0.fField))])) Z Z Z) $ et (b4 (x:=(idx v7.fFields o0.fField)) (w:=fun v8=>(Pr (j3 v8))) Z Z Z Z Z (j6 (e:=j3) Z Z Z underlying50 Z (by decide))) $ j2 fun v8=>et (b9 (m:=2) (j:=26) (t':=(iG x0 x1 o1 o0.fName v2 v3 [(134,(d4 a0.fTypes)),(135,(V.ptr 13 0 1)),(136,(I o0.fType)),(137,(Pr (d9 v4))),(138,(Pr (Sr v4.fName))),(139,(Sr v4.fName)),(140,(Sr v5)),(141,(Sr v6)),(142,(V.ptr 1 0 2)),(143,(d4 a0.fTypes)),(144,(V.ptr 13 0 1)),(145,(I o0.fType)),(146,(Pr (d9 v7))),(147,(Pr (c8 v7.fFields))),(148,(c8 v7.fFields)),(149,(V.ptr 13 0 2)),(150,(I o0.fField)),(151,(Pr (j3 v8))),(152,(Pr (Sr v8.fName))),(153,(Sr v8.fName))])) Z Z Z) $ et (b4 (x:=(cat v6 v8.fName)) (w:=fun v9=>(Sr v9)) Z Z Z Z Z (m8 Z Z Z)) $ j2 fun v9=>et (b9 (m:=0) (j:=27) (t':=(iG x0 x1 o1 o0.fName v2 v3 [(134,(d4 a0.fTypes)),(135,(V.ptr 13 0 1)),(136,(I o0.fType)),(137,(Pr (d9 v4))),(138,(Pr (Sr v4.fName))),(139,(Sr v4.fName)),(140,(Sr v5)),(141,(Sr v6)),(142,(V.ptr 1 0 2)),(143,(d4 a0.fTypes)),(144,(V.ptr 13 0 1)),(145,(I o0.fType)),(146,(Pr (d9 v7))),(147,(Pr (c8 v7.fFields))),(148,(c8 v7.fFields)),(149,(V.ptr 13 0 2)),(150,(I o0.fField)),(151,(Pr (j3 v8))),(152,(Pr (Sr v8.fName))),(153,(Sr v8.fName)),(154,(Sr v9))])) Z Z Z) $ et (b4 (x:=(cat v9 ([32]:Str))) (w:=fun va=>(Sr va)) Z Z Z Z Z (m8 Z Z Z)) $ j2 fun va=>et (b9 (m:=1) (j:=29) (t':=(iG x0 x1 o1 o0.fName v2 v3 [(134,(d4 a0.fTypes)),(135,(V.ptr 13 0 1)),(136,(I o0.fType)),(137,(Pr (d9 v4))),(138,(Pr (Sr v4.fName))),(139,(Sr v4.fName)),(140,(Sr v5)),(141,(Sr v6)),(142,(V.ptr 1 0 2)),(143,(d4 a0.fTypes)),(144,(V.ptr 13 0 1)),(145,(I o0.fType)),(146,(Pr (d9 v7))),(147,(Pr (c8 v7.fFields))),(148,(c8 v7.fFields)),(149,(V.ptr 13 0 2)),(150,(I o0.fField)),(151,(Pr (j3 v8))),(152,(Pr (Sr v8.fName))),(153,(Sr v8.fName)),(154,(Sr v9)),(155,(Sr va)),(156,(Sr o1))])) Z Z Z) $ et (b4 (x:=(cat va o1)) (w:=fun vb=>(Sr vb)) Z Z Z Z Z (m8 Z Z Z)) $ j2 fun vb=>et (b9 (m:=0) (j:=30) (t':=(iG x0 x1 o1 o0.fName v2 v3 [(134,(d4 a0.fTypes)),(135,(V.ptr 13 0 1)),(136,(I o0.fType)),(137,(Pr (d9 v4))),(138,(Pr (Sr v4.fName))),(139,(Sr v4.fName)),(140,(Sr v5)),(141,(Sr v6)),(142,(V.ptr 1 0 2)),(143,(d4 a0.fTypes)),(144,(V.ptr 13 0 1)),(145,(I o0.fType)),(146,(Pr (d9 v7))),(147,(Pr (c8 v7.fFields))),(148,(c8 v7.fFields)),(149,(V.ptr 13 0 2)),(150,(I o0.fField)),(151,(Pr (j3 v8))),(152,(Pr (Sr v8.fName))),(153,(Sr v8.fName)),(154,(Sr v9)),(155,(Sr va)),(156,(Sr o1)),(157,(Sr vb))])) Z Z Z) ?_
     exact et (b4 (x:=(cat vb ([10]:Str))) (w:=fun vc=>(Sr vc)) Z Z Z Z Z (m8 Z Z Z)) $ j2 fun vc=>et (b9 (m:=0) (j:=31) (t':=(iG x0 x1 o1 o0.fName v2 v3 [(134,(d4 a0.fTypes)),(135,(V.ptr 13 0 1)),(136,(I o0.fType)),(137,(Pr (d9 v4))),(138,(Pr (Sr v4.fName))),(139,(Sr v4.fName)),(140,(Sr v5)),(141,(Sr v6)),(142,(V.ptr 1 0 2)),(143,(d4 a0.fTypes)),(144,(V.ptr 13 0 1)),(145,(I o0.fType)),(146,(Pr (d9 v7))),(147,(Pr (c8 v7.fFields))),(148,(c8 v7.fFields)),(149,(V.ptr 13 0 2)),(150,(I o0.fField)),(151,(Pr (j3 v8))),(152,(Pr (Sr v8.fName))),(153,(Sr v8.fName)),(154,(Sr v9)),(155,(Sr va)),(156,(Sr o1)),(157,(Sr vb)),(158,(Sr vc))])) Z Z Z) $ et (b4 (x:=(cat x0 vc)) (w:=fun vd=>(Sr vd)) Z Z Z Z Z (m8 Z Z Z)) $ u7 fun vd=>s7 Z
    exact et j8 $ kl (bw a0 (bT o2 [(12,(I (sqW (x1+1))))])) Z $ et j7 $ ih o2 (sqW (x1+1))
   ·rw [hc]
    refine et l7 $ kdl uk Z (fun (o3:Str)=>(bw a0 (bT o3 [(12,(I x1))]))) ?_ fun o3=>?_
    ·refine et (k0 (p:=32) (dk:=true) (t:=(mw x0 x1 [(14,(Sr ([45]:Str))),(124,(Bo false))])) (σ:=[(1,vS 4 (j5 a0)),(13,vS 4 (d7 o0))]) (n:=161) Z (by decide) (by decide) Z) $ et (l9 (m:=3) (j:=3) (t':=(mw x0 x1 [(14,(Sr ([45]:Str))),(124,(Bo false)),(128,(Sr x0)),(129,(Pt 13)),(130,(Sr o0.fName))])) Z Z Z) $ et (b4 (x:=(cat ([73,78,68,69,88,32]:Str) o0.fName)) (w:=fun ve=>(Sr ve)) Z Z Z Z Z (m8 Z Z Z)) $ j2 fun ve=>et (b9 (m:=0) (j:=4) (t':=(mw x0 x1 [(14,(Sr ([45]:Str))),(124,(Bo false)),(128,(Sr x0)),(129,(Pt 13)),(130,(Sr o0.fName)),(131,(Sr ve))])) Z Z Z) $ et (b4 (x:=(cat ve ([32]:Str))) (w:=fun vf=>(Sr vf)) Z Z Z Z Z (m8 Z Z Z)) $ j2 fun vf=>et (b9 (m:=4) (j:=9) (t':=(iF x0 x1 o0.fName ve vf [(134,(d4 a0.fTypes)),(135,(V.ptr 13 0 1)),(136,(I o0.fType))])) Z Z Z) $ et (b4 (x:=(idx a0.fTypes o0.fType)) (w:=fun vg=>(Pr (d9 vg))) Z Z Z Z Z (j6 (e:=d9) Z Z Z underlying23 Z (by decide))) $ j2 fun vg=>et (b9 (m:=2) (j:=12) (t':=(iF x0 x1 o0.fName ve vf [(134,(d4 a0.fTypes)),(135,(V.ptr 13 0 1)),(136,(I o0.fType)),(137,(Pr (d9 vg))),(138,(Pr (Sr vg.fName))),(139,(Sr vg.fName))])) Z Z Z) $ et (b4 (x:=(cat vf vg.fName)) (w:=fun vh=>(Sr vh)) Z Z Z Z Z (m8 Z Z Z)) $ j2 fun vh=>et (b9 (m:=0) (j:=13) (t':=(iF x0 x1 o0.fName ve vf [(134,(d4 a0.fTypes)),(135,(V.ptr 13 0 1)),(136,(I o0.fType)),(137,(Pr (d9 vg))),(138,(Pr (Sr vg.fName))),(139,(Sr vg.fName)),(140,(Sr vh))])) Z Z Z) $ et (b4 (x:=(cat vh ([32]:Str))) (w:=fun vi=>(Sr vi)) Z Z Z Z Z (m8 Z Z Z)) $ j2 fun vi=>et (b9 (m:=4) (j:=18) (t':=(iF x0 x1 o0.fName ve vf [(134,(d4 a0.fTypes)),(135,(V.ptr 13 0 1)),(136,(I o0.fType)),(137,(Pr (d9 vg))),(138,(Pr (Sr vg.fName))),(139,(Sr vg.fName)),(140,(Sr vh)),(141,(Sr vi)),(142,(V.ptr 1 0 2)),(143,(d4 a0.fTypes)),(144,(V.ptr 13 0 1)),(145,(I o0.fType))])) Z Z Z) $ et (b4 (x:=(idx a0.fTypes o0.fType)) (w:=fun vj=>(Pr (d9 vj))) Z Z Z Z Z (j6 (e:=d9) Z Z Z underlying23 Z (by decide))) $ j2 fun vj=>et (b9 (m:=4) (j:=23) (t':=(iF x0 x1 o0.fName ve vf [(134,(d4 a0.fTypes)),(135,(V.ptr 13 0 1)),(136,(I o0.fType)),(137,(Pr (d9 vg))),(138,(Pr (Sr vg.fName))),(139,(Sr vg.fName)),(140,(Sr vh)),(141,(Sr vi)),(142,(V.ptr 1 0 2)),(143,(d4 a0.fTypes)),(144,(V.ptr 13 0 1)),(145,(I o0.fType)),(146,(Pr (d9 vj))),(147,(Pr (c8 vj.fFields))),(148,(c8 vj.fFields)),(149,(V.ptr 13 0 2)),(150,(I o0.fField))])) Z Z Z) $ et (b4 (x:=(idx vj.fFields o0.fField)) (w:=fun vk=>(Pr (j3 vk))) Z Z Z Z Z (j6 (e:=j3) Z Z Z underlying50 Z (by decide))) $ j2 fun vk=>et (b9 (m:=2) (j:=26) (t':=(iF x0 x1 o0.fName ve vf [(134,(d4 a0.fTypes)),(135,(V.ptr 13 0 1)),(136,(I o0.fType)),(137,(Pr (d9 vg))),(138,(Pr (Sr vg.fName))),(139,(Sr vg.fName)),(140,(Sr vh)),(141,(Sr vi)),(142,(V.ptr 1 0 2)),(143,(d4 a0.fTypes)),(144,(V.ptr 13 0 1)),(145,(I o0.fType)),(146,(Pr (d9 vj))),(147,(Pr (c8 vj.fFields))),(148,(c8 vj.fFields)),(149,(V.ptr 13 0 2)),(150,(I o0.fField)),(151,(Pr (j3 vk))),(152,(Pr (Sr vk.fName))),(153,(Sr vk.fName))])) Z Z Z) $ et (b4 (x:=(cat vi vk.fName)) (w:=fun vl=>(Sr vl)) Z Z Z Z Z (m8 Z Z Z)) $ j2 fun vl=>et (b9 (m:=0) (j:=27) (t':=(iF x0 x1 o0.fName ve vf [(134,(d4 a0.fTypes)),(135,(V.ptr 13 0 1)),(136,(I o0.fType)),(137,(Pr (d9 vg))),(138,(Pr (Sr vg.fName))),(139,(Sr vg.fName)),(140,(Sr vh)),(141,(Sr vi)),(142,(V.ptr 1 0 2)),(143,(d4 a0.fTypes)),(144,(V.ptr 13 0 1)),(145,(I o0.fType)),(146,(Pr (d9 vj))),(147,(Pr (c8 vj.fFields))),(148,(c8 vj.fFields)),(149,(V.ptr 13 0 2)),(150,(I o0.fField)),(151,(Pr (j3 vk))),(152,(Pr (Sr vk.fName))),(153,(Sr vk.fName)),(154,(Sr vl))])) Z Z Z) $ et (b4 (x:=(cat vl ([32]:Str))) (w:=fun vm=>(Sr vm)) Z Z Z Z Z (m8 Z Z Z)) $ j2 fun vm=>et (b9 (m:=1) (j:=29) (t':=(iF x0 x1 o0.fName ve vf [(134,(d4 a0.fTypes)),(135,(V.ptr 13 0 1)),(136,(I o0.fType)),(137,(Pr (d9 vg))),(138,(Pr (Sr vg.fName))),(139,(Sr vg.fName)),(140,(Sr vh)),(141,(Sr vi)),(142,(V.ptr 1 0 2)),(143,(d4 a0.fTypes)),(144,(V.ptr 13 0 1)),(145,(I o0.fType)),(146,(Pr (d9 vj))),(147,(Pr (c8 vj.fFields))),(148,(c8 vj.fFields)),(149,(V.ptr 13 0 2)),(150,(I o0.fField)),(151,(Pr (j3 vk))),(152,(Pr (Sr vk.fName))),(153,(Sr vk.fName)),(154,(Sr vl)),(155,(Sr vm)),(156,(Sr ([45]:Str)))])) Z Z Z) $ et (b4 (x:=(cat vm ([45]:Str))) (w:=fun vn=>(Sr vn)) Z Z Z Z Z (m8 Z Z Z)) $ j2 fun vn=>et (b9 (m:=0) (j:=30) (t':=(iF x0 x1 o0.fName ve vf [(134,(d4 a0.fTypes)),(135,(V.ptr 13 0 1)),(136,(I o0.fType)),(137,(Pr (d9 vg))),(138,(Pr (Sr vg.fName))),(139,(Sr vg.fName)),(140,(Sr vh)),(141,(Sr vi)),(142,(V.ptr 1 0 2)),(143,(d4 a0.fTypes)),(144,(V.ptr 13 0 1)),(145,(I o0.fType)),(146,(Pr (d9 vj))),(147,(Pr (c8 vj.fFields))),(148,(c8 vj.fFields)),(149,(V.ptr 13 0 2)),(150,(I o0.fField)),(151,(Pr (j3 vk))),(152,(Pr (Sr vk.fName))),(153,(Sr vk.fName)),(154,(Sr vl)),(155,(Sr vm)),(156,(Sr ([45]:Str))),(157,(Sr vn))])) Z Z Z) ?_
     exact et (b4 (x:=(cat vn ([10]:Str))) (w:=fun vo=>(Sr vo)) Z Z Z Z Z (m8 Z Z Z)) $ j2 fun vo=>et (b9 (m:=0) (j:=31) (t':=(iF x0 x1 o0.fName ve vf [(134,(d4 a0.fTypes)),(135,(V.ptr 13 0 1)),(136,(I o0.fType)),(137,(Pr (d9 vg))),(138,(Pr (Sr vg.fName))),(139,(Sr vg.fName)),(140,(Sr vh)),(141,(Sr vi)),(142,(V.ptr 1 0 2)),(143,(d4 a0.fTypes)),(144,(V.ptr 13 0 1)),(145,(I o0.fType)),(146,(Pr (d9 vj))),(147,(Pr (c8 vj.fFields))),(148,(c8 vj.fFields)),(149,(V.ptr 13 0 2)),(150,(I o0.fField)),(151,(Pr (j3 vk))),(152,(Pr (Sr vk.fName))),(153,(Sr vk.fName)),(154,(Sr vl)),(155,(Sr vm)),(156,(Sr ([45]:Str))),(157,(Sr vn)),(158,(Sr vo))])) Z Z Z) $ et (b4 (x:=(cat x0 vo)) (w:=fun vp=>(Sr vp)) Z Z Z Z Z (m8 Z Z Z)) $ u7 fun vp=>s7 Z
    exact et j8 $ kl (bw a0 (bT o3 [(12,(I (sqW (x1+1))))])) Z $ et j7 $ ih o3 (sqW (x1+1))
  ·rw [hc]
   exact et C7 $ et s6 $ hK0 x0 x1
theorem bG (k:Nat) (a0:a6):EV k 11 [(j5 a0)]=(am k a0).map H7:=by
 cases k with
 | zero=>rfl
 | succ k=>
  unfold am
  refine et (l8 (c:=f11c) (N:=161) (regs:=yG) Z func11 Z (by decide) Z Z Z) $ kr (bw a0 [(1,(Pt 1))]) Z $ et d8 $ kga BC Z (fun (o2:Bool)=>[(17,(Bo o2))]) (rd 1 [(15,(j5 a0))] Z Z $ rp Z (j9 Z Z Z Z Z (gL k a0) (.inl Z)) fun v1=>b6 Z) fun o2=>kc Z Z (fun hc=>?_) fun hc=>?_
  ·rw [hc]
   refine et d8 $ kr ⟨[(2,(Sr ([]:Str))),(3,(I 100))],[],161⟩ rfl $ et L6 ?_
   rfl
  ·rw [hc]
   refine et l7 $ kd BD Z (fun (o8:Str)=>(bw a0 (bT o8 []))) (et (k0 (p:=10) (dk:=true) (t:=[(1,(Pt 1)),(17,(Bo false))]) (σ:=(xV a0)) (n:=161) Z (by decide) (by decide) Z) $ et (l9 (m:=2) (j:=2) (t':=(tu a0.fName [])) Z Z Z) $ et (b4 (x:=(cat ([68,66,68,32]:Str) a0.fName)) (w:=fun v3=>(Sr v3)) Z Z Z Z Z (m8 Z Z Z)) $ j2 fun v3=>et (b9 (m:=0) (j:=3) (t':=(tu a0.fName [(20,(Sr v3))])) Z Z Z) $ et (b4 (x:=(cat v3 ([32]:Str))) (w:=fun v4=>(Sr v4)) Z Z Z Z Z (m8 Z Z Z)) $ j2 fun v4=>et (b9 (m:=2) (j:=6) (t':=(tu a0.fName [(20,(Sr v3)),(21,(Sr v4)),(22,(V.ptr 1 0 1)),(23,(I a0.fKind))])) Z Z Z) $ et (b4 (x:=(m0 k a0.fKind)) (w:=fun v5=>(Sr v5)) Z Z Z Z Z (j9 Z Z Z Z Z (C3 k a0.fKind) (.inl Z))) $ j2 fun v5=>et (b9 (m:=0) (j:=7) (t':=(tu a0.fName [(20,(Sr v3)),(21,(Sr v4)),(22,(V.ptr 1 0 1)),(23,(I a0.fKind)),(24,(Sr v5))])) Z Z Z) $ et (b4 (x:=(cat v4 v5)) (w:=fun v6=>(Sr v6)) Z Z Z Z Z (m8 Z Z Z)) $ j2 fun v6=>et (b9 (m:=0) (j:=8) (t':=(tu a0.fName [(20,(Sr v3)),(21,(Sr v4)),(22,(V.ptr 1 0 1)),(23,(I a0.fKind)),(24,(Sr v5)),(25,(Sr v6))])) Z Z Z) $ et (b4 (x:=(cat v6 ([10]:Str))) (w:=fun v7=>(Sr v7)) Z Z Z Z Z (m8 Z Z Z)) $ u7 fun v7=>s7 Z) fun o8=>et d8 $ kra [(5,(I 0))] Z $ et (l6 Z) $ et B3 ?_
   refine jf k a0 _ _ ?h_ref11_Format_L1_0 ?hr_ref11_Format_L1 k o8 0
   ·intro y0 y1
    refine et s5 $ et d8 $ kr (bw a0 (bT y0 [(12,(I 0))])) Z $ et (l6 Z) $ et B3 ?_
    refine jg k a0 _ _ ?h_ref11_Format_L6_0 ?hr_ref11_Format_L6 k y0 0
    ·intro y2 y3
     refine et s5 $ kr ⟨[(2,(Sr y2)),(3,(I 0))],[],161⟩ rfl $ et l5 ?_
     rfl
    ·intro s; exact rfl
   ·intro s; exact rfl
def fl:(List Str)→V×List V:=fun r=>((sS r),[])
theorem fP (k:Nat) (s:Str) (t:Str):EV k 21 [(Sr s),(Sr t)]=(Y1 k s t).map fl:=by
 cases k with
 | zero=>rfl
 | succ k=>exact (af (ext:=ext) (f:=21) Z).trans Z
def fm:Str→V×List V:=fun r=>((Sr r),[])
theorem fQ (k:Nat) (s:Str) (t:Str):EV k 23 [(Sr s),(Sr t)]=(strings_TrimSuffix k s t).map fm:=by
 cases k with
 | zero=>rfl
 | succ k=>exact (af (ext:=ext) (f:=23) Z).trans Z
def kR:(List Str)→V×List V:=fun r=>((sS r),[])
theorem lS (k:Nat) (s:Str) (t:Str):EV k 22 [(Sr s),(Sr t)]=(strings_Split k s t).map kR:=by
 cases k with
 | zero=>rfl
 | succ k=>exact (af (ext:=ext) (f:=22) Z).trans Z
def nw:(Int×Bool)→V×List V:=fun r=>((V.tup [(I r.1),(Bo r.2)]),[])
theorem dB (k:Nat) (s:Str):EV k 24 [(Sr s)]=(X3 k s).map nw:=by
 cases k with
 | zero=>rfl
 | succ k=>exact (af (ext:=ext) (f:=24) Z).trans Z
def mL:(Int×Int×Bool)→V×List V:=fun r=>(.tup [(I r.1),(I r.2.1),(Bo r.2.2)],[])
theorem gj (k:Nat) (a0:Str) (a1:Str):EV k 71 [(Sr a0),(Sr a1)]=(P6 k a0 a1).map mL:=by
 cases k with
 | zero=>rfl
 | succ k=>
  unfold P6
  refine et (l8 (c:=f71c) (N:=27) (regs:=GJ) Z func71 Z (by decide) Z Z Z) $ kra [] Z $ kg DX Z (fun (o2:Int×Bool)=>⟨[(1,(Sr a1)),(7,(I o2.1)),(8,(Bo o2.2))],[],27⟩) (rd 1 [(12,(Sr a0))] Z Z $ rp Z (j9 Z Z Z Z Z (dB k a0) (.inl Z)) fun v1=>b6 Z) fun o2=>kg DY Z (fun (o4:Int×Bool)=>⟨[(7,(I o2.1)),(8,(Bo o2.2)),(9,(I o4.1)),(10,(Bo o4.2))],[],27⟩) (rd 1 [(17,(Sr a1))] Z Z $ rp Z (j9 Z Z Z Z Z (dB k a1) (.inl Z)) fun v3=>b6 Z) fun o4=>kg DZ Z (fun (o5:Int×Int×Bool)=>⟨[(4,(I o5.1)),(5,(I o5.2.1)),(6,(Bo o5.2.2))],[],27⟩) ?_ fun o5=>?_
  ·refine rd 4 [(21,(I o2.1)),(22,(I o4.1)),(23,(Bo o2.2)),(24,(Bo o2.2))] Z Z $ u1 (fun hc=>?_) fun hc=>?_
   ·rw [hc]
    exact i7 Z
   ·rw [hc]
    exact i7 Z
  refine et l5 ?_
  rfl
def mM:Bool→V×List V:=fun r=>((Bo r),[])
theorem nx (k:Nat) (a0:a7) (a1:(List Str)):EV k 73 [(d9 a0),(Pr (sS a1))]=(Y6 k a0 a1).map mM:=by
 cases k with
 | zero=>rfl
 | succ k=>
  unfold Y6
  refine et (l8 (c:=f73c) (N:=10) (regs:=GK) Z func73 Z (by decide) Z Z Z) $ kr ⟨(kQ a1 []),[(2,vS 8 (d9 a0))],10⟩ rfl $ kd Ed Z (fun (o2:Bool)=>⟨[(3,(Bo o2))],[],10⟩) (et (k0 (p:=7) (dk:=true) (t:=(kQ a1 [])) (σ:=[(2,vS 8 (d9 a0))]) (n:=10) Z (by decide) (by decide) Z) $ et (l9 (m:=3) (j:=3) (t':=(kQ a1 [(4,(Pt 2)),(5,(Sr a0.fName)),(6,(sS a1))])) Z Z Z) $ et (b4 (x:=(idx a1 2)) (w:=fun v1=>(Pr (Sr v1))) Z Z Z Z Z (j6 (e:=V.str) Z Z Z underlying41 Z (by decide))) $ j2 fun v1=>s7 Z) fun o2=>et l5 ?_
  rfl
def oT:(Bool×a6)→V×List V:=fun r=>((Bo r.1),[(V.io (V.agg [(Sr r.2.fName),(I r.2.fKind),(V.sl 3 8 (List.map b5 r.2.fTypes)),(V.sl 1 4 (List.map d7 r.2.fIndexes))]))])
theorem qv (k:Nat) (a0:a6) (a1:(List Str)):EV k 46 [(V.io (V.agg [(Sr a0.fName),(I a0.fKind),(V.sl 3 8 (List.map b5 a0.fTypes)),(V.sl 1 4 (List.map d7 a0.fIndexes))])),(sS a1)]=(Y5 k a0 a1).map oT:=by
 cases k with
 | zero=>rfl
 | succ k=>
  unfold Y5
  refine et (l8 (c:=f46c) (N:=68) (regs:=Gj) Z func46 Z (by decide) Z Z Z) $ kr (kH a1 a0.fName a0.fKind a0.fTypes a0.fIndexes (tD [])) Z $ kd Dp Z (fun (o4:Int×Int×Bool)=>(kH a1 a0.fName a0.fKind a0.fTypes a0.fIndexes (fF o4.1 o4.2.1 o4.2.2 []))) (et (k0 (p:=14) (dk:=true) (t:=(tD [])) (σ:=(Ho a1 a0.fName a0.fKind a0.fTypes a0.fIndexes)) (n:=68) Z (by decide) (by decide) Z) $ et (l9 (m:=1) (j:=1) (t':=(tD [(10,(sS a1))])) Z Z Z) $ et (b4 (x:=(idx a1 3)) (w:=fun v1=>(Pr (Sr v1))) Z Z Z Z Z (j6 (e:=V.str) Z Z Z underlying41 Z (by decide))) $ j2 fun v1=>et (b9 (m:=2) (j:=4) (t':=(tD [(10,(sS a1)),(11,(Pr (Sr v1))),(12,(Sr v1)),(13,(sS a1))])) Z Z Z) $ et (b4 (x:=(idx a1 4)) (w:=fun v2=>(Pr (Sr v2))) Z Z Z Z Z (j6 (e:=V.str) Z Z Z underlying41 Z (by decide))) $ j2 fun v2=>et (b9 (m:=1) (j:=6) (t':=(tD [(10,(sS a1)),(11,(Pr (Sr v1))),(12,(Sr v1)),(13,(sS a1)),(14,(Pr (Sr v2))),(15,(Sr v2))])) Z Z Z) $ et (b4 (x:=(P6 k v1 v2)) (w:=fun v3=>(V.tup [(I v3.1),(I v3.2.1),(Bo v3.2.2)])) Z Z Z Z Z (j9 Z Z Z Z Z (gj k v1 v2) (.inl Z))) $ j2 fun v3=>s7 Z) fun o4=>kra [(8,(I (-1)))] Z $ et d8 $ kga Dq Z (fun (o6:Bool)=>[(23,(Bo o6))]) (rd 1 [(20,(sS a1))] Z Z $ rp Z (j6 (e:=V.str) Z Z Z underlying41 Z (by decide)) fun v5=>b6 Z) fun o6=>kc Z Z (fun hc=>?_) fun hc=>?_
  ·rw [hc]
   refine et d8 $ kg Dr Z (fun (o8:Int)=>(kH a1 a0.fName a0.fKind a0.fTypes a0.fIndexes (fF o4.1 o4.2.1 o4.2.2 [(8,(I o8))]))) (et (ar (x:=some ()) (st1:=(tq a0.fTypes a1 a0.fName a0.fKind a0.fIndexes (fF o4.1 o4.2.1 o4.2.2 [(8,(I (-1))),(23,(Bo true))]))) (w:=fun _=>((Pt 68),(tq a0.fTypes a1 a0.fName a0.fKind a0.fIndexes (fF o4.1 o4.2.1 o4.2.2 [(8,(I (-1))),(23,(Bo true))])))) (u:=fun _=>(tq a0.fTypes a1 a0.fName a0.fKind a0.fIndexes (fF o4.1 o4.2.1 o4.2.2 [(8,(I (-1))),(23,(Bo true)),(24,(Pt 68))]))) Z Z Z Z Z Z Z Z (fun _=>rfl)) $ et A6 $ rd 5 [(25,(Pt 68)),(26,(V.ptr 68 0 2)),(27,(aL 0 b5 a0.fTypes)),(28,(V.fn 73 [] [(Pt 3)]))] Z Z $ rp Z (j9 Z Z Z Z (pi (zE (e:=b5) (e':=d9) (fun _=>rfl) Z) (by intro s i q h; cases h) (pi Z (by intro s i q h; cases h) Z)) (O6 k a0.fTypes (fun j x0=>(Y6 j x0 a1)) 73 (sS a1) (fun j x0=>(nx j x0 a1))) (.inr (fun _=>rfl))) fun v7=>bd 6 [(29,(I v7))] Z Z $ et (ar (x:=some ()) (st1:=(tq a0.fTypes a1 a0.fName a0.fKind a0.fIndexes (fF o4.1 o4.2.1 o4.2.2 [(8,(I (-1))),(23,(Bo true)),(24,(Pt 68)),(25,(Pt 68)),(26,(V.ptr 68 0 2)),(27,(aL 0 b5 a0.fTypes)),(28,(V.fn 73 [] [(Pt 3)])),(29,(I v7))]))) (w:=fun _=>((I v7),(tq a0.fTypes a1 a0.fName a0.fKind a0.fIndexes (fF o4.1 o4.2.1 o4.2.2 [(8,(I (-1))),(23,(Bo true)),(24,(Pt 68)),(25,(Pt 68)),(26,(V.ptr 68 0 2)),(27,(aL 0 b5 a0.fTypes)),(28,(V.fn 73 [] [(Pt 3)])),(29,(I v7))])))) (u:=fun _=>(kH a1 a0.fName a0.fKind a0.fTypes a0.fIndexes (fF o4.1 o4.2.1 o4.2.2 [(8,(I v7)),(23,(Bo true)),(24,(Pt 68)),(25,(Pt 68)),(26,(V.ptr 68 0 2)),(27,V.undef),(28,(V.fn 73 [] [(Pt 3)])),(29,(I v7))]))) Z Z Z Z Z Z Z Z (fun _=>gh1 Z (bY Z Z Z Z Z))) $ et A6 $ i7 Z) fun o8=>kg Ds Z (fun (o9:Bool)=>(kH a1 a0.fName a0.fKind a0.fTypes a0.fIndexes (fF o4.1 o4.2.1 o9 [(8,(I o8))]))) ?_ fun o9=>?_
   ·refine rd 2 [(30,(Bo o4.2.2)),(31,(Bo o4.2.2))] Z Z $ u1 (fun hc=>?_) fun hc=>?_
    ·rw [hc]
     exact i7 Z
    ·rw [hc]
     exact i7 Z
   refine kd yV Z (fun (o0:(List a7))=>(kH a1 a0.fName a0.fKind o0 a0.fIndexes [(3,(Pt 3)),(7,(Bo o9))])) (et (au (by decide)) $ rdN 1 [(35,(Pt 68))] Z Z $ rdN 2 [(36,(Pt 68))] Z Z $ rdN 3 [(37,(Pt 68))] Z Z $ rdN 4 [(38,(V.ptr 68 0 2))] Z Z $ et (B2 (x:=some ()) (w:=fun _=>((V.sl 3 8 (List.map b5 a0.fTypes)),_)) Z Z Z Z (wx Z Z Z Z Z Z)) $ et A6 $ baN 0 5 ⟨(fF o4.1 o4.2.1 o9 [(8,(I o8)),(35,(Pt 68)),(36,(Pt 68)),(37,(Pt 68)),(38,(V.ptr 68 0 2)),(39,(V.sl 3 8 (List.map b5 a0.fTypes)))]),[(3,vS 1 (sS a1)),(68,⟨false,4,[(V.agg [(Sr a0.fName),(I a0.fKind),(V.strip1 (V.sl 3 8 (List.map b5 a0.fTypes))),(V.sl 1 4 (List.map d7 a0.fIndexes))])]⟩)],68⟩ rfl Z Z $ rdN 6 [(40,(sS a1))] Z Z $ rp Z (j6 (e:=V.str) Z Z Z underlying41 Z (by decide)) fun v0=>bdN 8 [(41,(Pr (Sr v0))),(42,(Sr v0))] Z Z $ rdN 9 [(43,(I o8))] Z Z $ rdN 10 [(44,(I o4.1))] Z Z $ rdN 11 [(45,(I o4.2.1))] Z Z $ rdN 12 [(46,(sS a1))] Z Z $ rp Z (j6 (e:=V.str) Z Z Z underlying41 Z (by decide)) fun v4=>bdN 14 [(47,(Pr (Sr v4))),(48,(Sr v4))] Z Z $ rdN 15 [(49,(Bo (v4 == ([76]:Str))))] Z Z $ rdN 16 [(50,(V.agg [(Sr v0),(I o8),(I o4.1),(I o4.2.1),(V.sl 5 3 (List.map j3 ([]:List b8))),(I (-1)),(Bo false),(Bo (v4 == ([76]:Str)))]))] Z Z $ rdN 17 [(51,(V.sl 0 8 [(V.agg [(Sr v0),(I o8),(I o4.1),(I o4.2.1),(V.sl 5 3 (List.map j3 ([]:List b8))),(I (-1)),(Bo false),(Bo (v4 == ([76]:Str)))])]))] Z Z $ et (B2 (x:=(app a0.fTypes [({ fName:=v0,fParent:=o8,fMin:=o4.1,fSize:=o4.2.1,fFields:=([]:List b8),fKey:=(-1),fUnique:=false,fLast:=(v4 == ([76]:Str)) }:a7)])) (w:=fun v6=>((V.sl 3 8 (List.map b5 v6)),_)) Z Z Z Z (zL (e:=b5) (l:=a0.fTypes) (m:=[({ fName:=v0,fParent:=o8,fMin:=o4.1,fSize:=o4.2.1,fFields:=([]:List b8),fKey:=(-1),fUnique:=false,fLast:=(v4 == ([76]:Str)) }:a7)]) Z Z Z Z Z Z Z Z Z Z Z Z)) $ j2 fun v6=>baN 1 19 ⟨(fF o4.1 o4.2.1 o9 [(8,(I o8)),(35,(Pt 68)),(36,(Pt 68)),(37,(Pt 68)),(38,(V.ptr 68 0 2)),(39,(V.strip1 (V.sl 3 8 (List.map b5 a0.fTypes)))),(40,(sS a1)),(41,(Pr (Sr v0))),(42,(Sr v0)),(43,(I o8)),(44,(I o4.1)),(45,(I o4.2.1)),(46,(sS a1)),(47,(Pr (Sr v4))),(48,(Sr v4)),(49,(Bo (v4 == ([76]:Str)))),(50,(V.agg [(Sr v0),(I o8),(I o4.1),(I o4.2.1),(V.sl 5 3 (List.map j3 ([]:List b8))),(I (-1)),(Bo false),(Bo (v4 == ([76]:Str)))])),(51,(V.sl 0 8 [(V.agg [(Sr v0),(I o8),(I o4.1),(I o4.2.1),(V.sl 5 3 (List.map j3 ([]:List b8))),(I (-1)),(Bo false),(Bo (v4 == ([76]:Str)))])])),(52,(V.sl 3 8 (List.map b5 v6))),(53,(Pt 68))]),[(3,vS 1 (sS a1)),(68,⟨false,4,[(V.agg [(Sr a0.fName),(I a0.fKind),(V.strip1 (V.sl 3 8 (List.map b5 a0.fTypes))),(V.sl 1 4 (List.map d7 a0.fIndexes))])]⟩)],68⟩ rfl Z Z $ rdN 20 [(54,(V.ptr 68 0 2))] Z Z $ raN 1 21 (kH a1 a0.fName a0.fKind v6 a0.fIndexes (fF o4.1 o4.2.1 o9 [(8,(I o8)),(35,(Pt 68)),(36,(Pt 68)),(37,(Pt 68)),(38,(V.ptr 68 0 2)),(39,(V.strip1 (V.sl 3 8 (List.map b5 a0.fTypes)))),(40,(sS a1)),(41,(Pr (Sr v0))),(42,(Sr v0)),(43,(I o8)),(44,(I o4.1)),(45,(I o4.2.1)),(46,(sS a1)),(47,(Pr (Sr v4))),(48,(Sr v4)),(49,(Bo (v4 == ([76]:Str)))),(50,(V.agg [(Sr v0),(I o8),(I o4.1),(I o4.2.1),(V.sl 5 3 (List.map j3 ([]:List b8))),(I (-1)),(Bo false),(Bo (v4 == ([76]:Str)))])),(51,(V.sl 0 8 [(V.agg [(Sr v0),(I o8),(I o4.1),(I o4.2.1),(V.sl 5 3 (List.map j3 ([]:List b8))),(I (-1)),(Bo false),(Bo (v4 == ([76]:Str)))])])),(52,(V.strip1 (V.sl 3 8 (List.map b5 v6)))),(53,(Pt 68)),(54,(V.ptr 68 0 2))])) Z Z Z $ ta Z) fun o0=>kg yW Z (fun (o1:Bool)=>⟨[(4,(Bo o1))],[(68,⟨false,4,[(V.agg [(Sr a0.fName),(I a0.fKind),(V.sl 3 8 (List.map b5 o0)),(V.sl 1 4 (List.map d7 a0.fIndexes))])]⟩)],68⟩) ?_ fun o1=>?_
   ·refine rd 2 [(55,(Bo o9)),(56,(Bo o9))] Z Z $ u1 (fun hc=>?_) fun hc=>?_
    ·rw [hc]
     refine rd 3 [(57,(sS a1))] Z Z $ rp Z (j6 (e:=V.str) Z Z Z underlying41 Z (by decide)) fun v8=>bd 7 [(58,(Pr (Sr v8))),(59,(Sr v8)),(60,(Bo (v8 == ([76]:Str)))),(61,(Bo (v8 == ([76]:Str))))] Z Z $ u1 (fun hc=>?_) fun hc=>?_
     ·rw [hc]
      exact i7 Z
     ·rw [hc]
      exact rd 8 [(62,(sS a1))] Z Z $ rp Z (j6 (e:=V.str) Z Z Z underlying41 Z (by decide)) fun v9=>b6 Z
    ·rw [hc]
     exact i7 Z
   refine et l5 ?_
   rfl
  ·rw [hc]
   refine et l7 $ kd yV Z (fun (o2:(List a7))=>(kH a1 a0.fName a0.fKind o2 a0.fIndexes [(3,(Pt 3)),(7,(Bo o4.2.2))])) (et (au (by decide)) $ rdN 1 [(35,(Pt 68))] Z Z $ rdN 2 [(36,(Pt 68))] Z Z $ rdN 3 [(37,(Pt 68))] Z Z $ rdN 4 [(38,(V.ptr 68 0 2))] Z Z $ et (B2 (x:=some ()) (w:=fun _=>((V.sl 3 8 (List.map b5 a0.fTypes)),_)) Z Z Z Z (wx Z Z Z Z Z Z)) $ et A6 $ baN 0 5 ⟨(Ai o4.1 o4.2.1 o4.2.2 [(39,(V.sl 3 8 (List.map b5 a0.fTypes)))]),[(3,vS 1 (sS a1)),(68,⟨false,4,[(V.agg [(Sr a0.fName),(I a0.fKind),(V.strip1 (V.sl 3 8 (List.map b5 a0.fTypes))),(V.sl 1 4 (List.map d7 a0.fIndexes))])]⟩)],68⟩ rfl Z Z $ rdN 6 [(40,(sS a1))] Z Z $ rp Z (j6 (e:=V.str) Z Z Z underlying41 Z (by decide)) fun va=>bdN 8 [(41,(Pr (Sr va))),(42,(Sr va))] Z Z $ rdN 9 [(43,(I (-1)))] Z Z $ rdN 10 [(44,(I o4.1))] Z Z $ rdN 11 [(45,(I o4.2.1))] Z Z $ rdN 12 [(46,(sS a1))] Z Z $ rp Z (j6 (e:=V.str) Z Z Z underlying41 Z (by decide)) fun vb=>bdN 14 [(47,(Pr (Sr vb))),(48,(Sr vb))] Z Z $ rdN 15 [(49,(Bo (vb == ([76]:Str))))] Z Z $ rdN 16 [(50,(V.agg [(Sr va),(I (-1)),(I o4.1),(I o4.2.1),(V.sl 5 3 (List.map j3 ([]:List b8))),(I (-1)),(Bo false),(Bo (vb == ([76]:Str)))]))] Z Z $ rdN 17 [(51,(V.sl 0 8 [(V.agg [(Sr va),(I (-1)),(I o4.1),(I o4.2.1),(V.sl 5 3 (List.map j3 ([]:List b8))),(I (-1)),(Bo false),(Bo (vb == ([76]:Str)))])]))] Z Z $ et (B2 (x:=(app a0.fTypes [({ fName:=va,fParent:=(-1),fMin:=o4.1,fSize:=o4.2.1,fFields:=([]:List b8),fKey:=(-1),fUnique:=false,fLast:=(vb == ([76]:Str)) }:a7)])) (w:=fun vc=>((V.sl 3 8 (List.map b5 vc)),_)) Z Z Z Z (zL (e:=b5) (l:=a0.fTypes) (m:=[({ fName:=va,fParent:=(-1),fMin:=o4.1,fSize:=o4.2.1,fFields:=([]:List b8),fKey:=(-1),fUnique:=false,fLast:=(vb == ([76]:Str)) }:a7)]) Z Z Z Z Z Z Z Z Z Z Z Z)) $ j2 fun vc=>baN 1 19 ⟨(Ai o4.1 o4.2.1 o4.2.2 [(39,(V.strip1 (V.sl 3 8 (List.map b5 a0.fTypes)))),(40,(sS a1)),(41,(Pr (Sr va))),(42,(Sr va)),(43,(I (-1))),(44,(I o4.1)),(45,(I o4.2.1)),(46,(sS a1)),(47,(Pr (Sr vb))),(48,(Sr vb)),(49,(Bo (vb == ([76]:Str)))),(50,(V.agg [(Sr va),(I (-1)),(I o4.1),(I o4.2.1),(V.sl 5 3 (List.map j3 ([]:List b8))),(I (-1)),(Bo false),(Bo (vb == ([76]:Str)))])),(51,(V.sl 0 8 [(V.agg [(Sr va),(I (-1)),(I o4.1),(I o4.2.1),(V.sl 5 3 (List.map j3 ([]:List b8))),(I (-1)),(Bo false),(Bo (vb == ([76]:Str)))])])),(52,(V.sl 3 8 (List.map b5 vc))),(53,(Pt 68))]),[(3,vS 1 (sS a1)),(68,⟨false,4,[(V.agg [(Sr a0.fName),(I a0.fKind),(V.strip1 (V.sl 3 8 (List.map b5 a0.fTypes))),(V.sl 1 4 (List.map d7 a0.fIndexes))])]⟩)],68⟩ rfl Z Z $ rdN 20 [(54,(V.ptr 68 0 2))] Z Z $ raN 1 21 (kH a1 a0.fName a0.fKind vc a0.fIndexes (Ai o4.1 o4.2.1 o4.2.2 [(39,(V.strip1 (V.sl 3 8 (List.map b5 a0.fTypes)))),(40,(sS a1)),(41,(Pr (Sr va))),(42,(Sr va)),(43,(I (-1))),(44,(I o4.1)),(45,(I o4.2.1)),(46,(sS a1)),(47,(Pr (Sr vb))),(48,(Sr vb)),(49,(Bo (vb == ([76]:Str)))),(50,(V.agg [(Sr va),(I (-1)),(I o4.1),(I o4.2.1),(V.sl 5 3 (List.map j3 ([]:List b8))),(I (-1)),(Bo false),(Bo (vb == ([76]:Str)))])),(51,(V.sl 0 8 [(V.agg [(Sr va),(I (-1)),(I o4.1),(I o4.2.1),(V.sl 5 3 (List.map j3 ([]:List b8))),(I (-1)),(Bo false),(Bo (vb == ([76]:Str)))])])),(52,(V.strip1 (V.sl 3 8 (List.map b5 vc)))),(53,(Pt 68)),(54,(V.ptr 68 0 2))])) Z Z Z $ ta Z) fun o2=>kg yW Z (fun (o3:Bool)=>⟨[(4,(Bo o3))],[(68,⟨false,4,[(V.agg [(Sr a0.fName),(I a0.fKind),(V.sl 3 8 (List.map b5 o2)),(V.sl 1 4 (List.map d7 a0.fIndexes))])]⟩)],68⟩) ?_ fun o3=>?_
   ·refine rd 2 [(55,(Bo o4.2.2)),(56,(Bo o4.2.2))] Z Z $ u1 (fun hc=>?_) fun hc=>?_
    ·rw [hc]
     refine rd 3 [(57,(sS a1))] Z Z $ rp Z (j6 (e:=V.str) Z Z Z underlying41 Z (by decide)) fun vd=>bd 7 [(58,(Pr (Sr vd))),(59,(Sr vd)),(60,(Bo (vd == ([76]:Str)))),(61,(Bo (vd == ([76]:Str))))] Z Z $ u1 (fun hc=>?_) fun hc=>?_
     ·rw [hc]
      exact i7 Z
     ·rw [hc]
      exact rd 8 [(62,(sS a1))] Z Z $ rp Z (j6 (e:=V.str) Z Z Z underlying41 Z (by decide)) fun ve=>b6 Z
    ·rw [hc]
     exact i7 Z
   refine et l5 ?_
   rfl
def mI:(Bool×a6)→V×List V:=fun r=>((Bo r.1),[(V.io (V.agg [(Sr r.2.fName),(I r.2.fKind),(V.sl 3 8 (List.map b5 r.2.fTypes)),(V.sl 1 4 (List.map d7 r.2.fIndexes))]))])
theorem nt (k:Nat) (a0:a6) (a1:(List Str)):EV k 47 [(V.io (V.agg [(Sr a0.fName),(I a0.fKind),(V.sl 3 8 (List.map b5 a0.fTypes)),(V.sl 1 4 (List.map d7 a0.fIndexes))])),(sS a1)]=(N5 k a0 a1).map mI:=by
 cases k with
 | zero=>rfl
 | succ k=>
  unfold N5
  refine et (l8 (c:=f47c) (N:=94) (regs:=Gk) Z func47 Z (by decide) Z Z Z) $ kra [] Z $ et d8 $ krp Dt Z (bS a0.fTypes a0.fName a0.fKind a0.fIndexes (Q8 a1 [(14,(Bo ((a0.fTypes.length:Int) == 0)))])) ?_ ?_
  ·exact et (ar (x:=some ()) (st1:=(bS a0.fTypes a0.fName a0.fKind a0.fIndexes (Q8 a1 []))) (w:=fun _=>((Pt 94),(bS a0.fTypes a0.fName a0.fKind a0.fIndexes (Q8 a1 [])))) (u:=fun _=>(bS a0.fTypes a0.fName a0.fKind a0.fIndexes (Q8 a1 [(9,(Pt 94))]))) Z Z Z Z Z Z Z Z (fun _=>rfl)) $ et A6 $ rd 4 [(10,(Pt 94)),(11,(V.ptr 94 0 2)),(12,(aL 0 b5 a0.fTypes))] Z Z $ rl Z (uM (e:=b5) Z Z Z Z Z Z underlying23) $ b6 Z
  refine kc Z Z (fun hc=>?_) fun hc=>?_
  ·rw [hc]
   refine et d8 $ krp Du Z (pX a0.fName a0.fKind a0.fTypes a0.fIndexes (Z2 [])) ?_ ?_
   ·exact et (ar (x:=some ()) (st1:=(bS a0.fTypes a0.fName a0.fKind a0.fIndexes (Q8 a1 [(14,(Bo true))]))) (w:=fun _=>((Bo false),(bS a0.fTypes a0.fName a0.fKind a0.fIndexes (Q8 a1 [(14,(Bo true))])))) (u:=fun _=>(pX a0.fName a0.fKind a0.fTypes a0.fIndexes (Q8 a1 [(4,(Bo false)),(14,(Bo true))]))) Z Z Z Z Z Z Z Z (fun _=>gh1 Z (bY Z Z Z Z Z))) $ et A6 $ i7 Z
   refine et L6 ?_
   rfl
  ·rw [hc]
   refine et l7 $ kd Dv Z (fun (o2:Unit)=>(bS a0.fTypes a0.fName a0.fKind a0.fIndexes (Q8 a1 [(5,(V.ptr 0 (0+(sqW ((a0.fTypes.length:Int) - 1)).toNat) 0))]))) (et (k0 (p:=12) (dk:=true) (t:=(Q8 a1 [(14,(Bo false))])) (σ:=(Ag a0.fTypes a0.fName a0.fKind a0.fIndexes)) (n:=94) Z (by decide) (by decide) Z) $ et (l9 (m:=8) (j:=8) (t':=(ET a1 a0.fTypes [])) Z Z Z) $ et (b4 (x:=some ()) (w:=fun _=>(I (a0.fTypes.length:Int))) Z Z Z Z Z (uM (e:=b5) Z Z Z Z Z Z underlying23)) $ et A6 $ et (b9 (m:=1) (j:=10) (t':=(ET a1 a0.fTypes [(23,(I (a0.fTypes.length:Int))),(24,(I (sqW ((a0.fTypes.length:Int) - 1))))])) Z Z Z) $ et (b4 (x:=(inB a0.fTypes.length (sqW ((a0.fTypes.length:Int) - 1)))) (w:=fun v1=>(V.ptr 0 (0+(sqW ((a0.fTypes.length:Int) - 1)).toNat) 0)) Z Z Z Z Z (sX (e:=b5) Z Z Z underlying23 Z Z (by decide))) $ j2 fun v1=>s7 Z) fun o2=>kd Dw Z (fun (o6:Int×Int×Bool)=>(bS a0.fTypes a0.fName a0.fKind a0.fIndexes (Q8 a1 [(5,(V.ptr 0 (0+(sqW ((a0.fTypes.length:Int) - 1)).toNat) 0)),(6,(I o6.1)),(7,(I o6.2.1)),(8,(Bo o6.2.2))]))) (et (k0 (p:=14) (dk:=true) (t:=(Q8 a1 [(5,(V.ptr 0 (0+(sqW ((a0.fTypes.length:Int) - 1)).toNat) 0))])) (σ:=(Ag a0.fTypes a0.fName a0.fKind a0.fIndexes)) (n:=94) Z (by decide) (by decide) Z) $ et (l9 (m:=1) (j:=1) (t':=(Q8 a1 [(5,(V.ptr 0 (0+(sqW ((a0.fTypes.length:Int) - 1)).toNat) 0)),(27,(sS a1))])) Z Z Z) $ et (b4 (x:=(idx a1 2)) (w:=fun v3=>(Pr (Sr v3))) Z Z Z Z Z (j6 (e:=V.str) Z Z Z underlying41 Z (by decide))) $ j2 fun v3=>et (b9 (m:=2) (j:=4) (t':=(Q8 a1 [(5,(V.ptr 0 (0+(sqW ((a0.fTypes.length:Int) - 1)).toNat) 0)),(27,(sS a1)),(28,(Pr (Sr v3))),(29,(Sr v3)),(30,(sS a1))])) Z Z Z) $ et (b4 (x:=(idx a1 3)) (w:=fun v4=>(Pr (Sr v4))) Z Z Z Z Z (j6 (e:=V.str) Z Z Z underlying41 Z (by decide))) $ j2 fun v4=>et (b9 (m:=1) (j:=6) (t':=(Q8 a1 [(5,(V.ptr 0 (0+(sqW ((a0.fTypes.length:Int) - 1)).toNat) 0)),(27,(sS a1)),(28,(Pr (Sr v3))),(29,(Sr v3)),(30,(sS a1)),(31,(Pr (Sr v4))),(32,(Sr v4))])) Z Z Z) $ et (b4 (x:=(P6 k v3 v4)) (w:=fun v5=>(V.tup [(I v5.1),(I v5.2.1),(Bo v5.2.2)])) Z Z Z Z Z (j9 Z Z Z Z Z (gj k v3 v4) (.inl Z))) $ j2 fun v5=>s7 Z) fun o6=>kd Dx Z (fun (o0:(List a7))=>(bS o0 a0.fName a0.fKind a0.fIndexes (Q8 a1 [(5,(V.ptr 0 (0+(sqW ((a0.fTypes.length:Int) - 1)).toNat) 0)),(8,(Bo o6.2.2))]))) ?_ fun o0=>?_
   ·refine et (au (by decide)) $ rd 4 [(37,(V.ptr 0 (0+(sqW ((a0.fTypes.length:Int) - 1)).toNat) 0)),(38,(V.ptr 0 (0+(sqW ((a0.fTypes.length:Int) - 1)).toNat) 0)),(39,(V.ptr 0 (0+(sqW ((a0.fTypes.length:Int) - 1)).toNat) 0)),(40,(V.ptr 0 (0+(sqW ((a0.fTypes.length:Int) - 1)).toNat) 4))] Z Z $ et (B2 (x:=(a0.fTypes[0+(sqW ((a0.fTypes.length:Int) - 1)).toNat]?)) (w:=fun v7=>((V.sl 1 3 (List.map j3 v7.fFields)),_)) Z Z Z Z (Bh (e:=b5) (e':=d9) (part:=(fun a=>(V.sl 1 3 (List.map j3 a.fFields)))) Z Z Z Z (fun _=>rfl) (fun _=>rfl))) ?_
    refine j2 fun v7=>ba 1 6 ⟨(Q8 a1 [(5,(V.ptr 0 (0+(sqW ((a0.fTypes.length:Int) - 1)).toNat) 0)),(6,(I o6.1)),(7,(I o6.2.1)),(8,(Bo o6.2.2)),(37,(V.ptr 0 (0+(sqW ((a0.fTypes.length:Int) - 1)).toNat) 0)),(38,(V.ptr 0 (0+(sqW ((a0.fTypes.length:Int) - 1)).toNat) 0)),(39,(V.ptr 0 (0+(sqW ((a0.fTypes.length:Int) - 1)).toNat) 0)),(40,(V.ptr 0 (0+(sqW ((a0.fTypes.length:Int) - 1)).toNat) 4)),(41,(V.sl 1 3 (List.map j3 v7.fFields))),(42,(sS a1))]),[(0,⟨true,8,(List.map b5 a0.fTypes).set (0+(sqW ((a0.fTypes.length:Int) - 1)).toNat) (d9 v7)⟩),(94,⟨false,4,[(V.agg [(Sr a0.fName),(I a0.fKind),(aL 0 b5 a0.fTypes),(V.sl 1 4 (List.map d7 a0.fIndexes))])]⟩)],94⟩ rfl Z Z $ rp Z (j6 (e:=V.str) Z Z Z underlying41 Z (by decide)) fun v8=>bd 12 [(43,(Pr (Sr v8))),(44,(Sr v8)),(45,(I o6.1)),(46,(I o6.2.1)),(47,(j3 ({ fName:=v8,fAt:=o6.1,fBytes:=o6.2.1 }:b8))),(48,(c8 (([({ fName:=v8,fAt:=o6.1,fBytes:=o6.2.1 }:b8)]:List b8))))] Z Z $ et (B2 (x:=(app v7.fFields ([({ fName:=v8,fAt:=o6.1,fBytes:=o6.2.1 }:b8)]:List b8))) (w:=fun v9=>((V.sl 1 3 (List.map j3 v9)),_)) Z Z Z Z (sV (e:=j3) Z Z Z Z Z Z Z Z Z Z (by decide))) $ j2 fun v9=>ba 2 15 ⟨(Q8 a1 [(5,(V.ptr 0 (0+(sqW ((a0.fTypes.length:Int) - 1)).toNat) 0)),(6,(I o6.1)),(7,(I o6.2.1)),(8,(Bo o6.2.2)),(37,(V.ptr 0 (0+(sqW ((a0.fTypes.length:Int) - 1)).toNat) 0)),(38,(V.ptr 0 (0+(sqW ((a0.fTypes.length:Int) - 1)).toNat) 0)),(39,(V.ptr 0 (0+(sqW ((a0.fTypes.length:Int) - 1)).toNat) 0)),(40,(V.ptr 0 (0+(sqW ((a0.fTypes.length:Int) - 1)).toNat) 4)),(41,(c8 v7.fFields)),(42,(sS a1)),(43,(Pr (Sr v8))),(44,(Sr v8)),(45,(I o6.1)),(46,(I o6.2.1)),(47,(j3 ({ fName:=v8,fAt:=o6.1,fBytes:=o6.2.1 }:b8))),(48,(c8 (([({ fName:=v8,fAt:=o6.1,fBytes:=o6.2.1 }:b8)]:List b8)))),(49,(V.sl 1 3 (List.map j3 v9))),(50,(V.ptr 0 (0+(sqW ((a0.fTypes.length:Int) - 1)).toNat) 0)),(51,(V.ptr 0 (0+(sqW ((a0.fTypes.length:Int) - 1)).toNat) 4))]),[(0,⟨true,8,(List.map b5 a0.fTypes).set (0+(sqW ((a0.fTypes.length:Int) - 1)).toNat) (d9 v7)⟩),(94,⟨false,4,[(V.agg [(Sr a0.fName),(I a0.fKind),(aL 0 b5 a0.fTypes),(V.sl 1 4 (List.map d7 a0.fIndexes))])]⟩)],94⟩ rfl Z Z $ et (B2 (x:=(a0.fTypes[0+(sqW ((a0.fTypes.length:Int) - 1)).toNat]?)) (w:=fun _=>(V.tup [],_)) Z Z Z Z (zR (S:=(fun n_=>⟨(Q8 a1 [(5,(V.ptr 0 (0+(sqW ((a0.fTypes.length:Int) - 1)).toNat) 0)),(6,(I o6.1)),(7,(I o6.2.1)),(8,(Bo o6.2.2)),(37,(V.ptr 0 (0+(sqW ((a0.fTypes.length:Int) - 1)).toNat) 0)),(38,(V.ptr 0 (0+(sqW ((a0.fTypes.length:Int) - 1)).toNat) 0)),(39,(V.ptr 0 (0+(sqW ((a0.fTypes.length:Int) - 1)).toNat) 0)),(40,(V.ptr 0 (0+(sqW ((a0.fTypes.length:Int) - 1)).toNat) 4)),(41,(c8 v7.fFields)),(42,(sS a1)),(43,(Pr (Sr v8))),(44,(Sr v8)),(45,(I o6.1)),(46,(I o6.2.1)),(47,(j3 ({ fName:=v8,fAt:=o6.1,fBytes:=o6.2.1 }:b8))),(48,(c8 (([({ fName:=v8,fAt:=o6.1,fBytes:=o6.2.1 }:b8)]:List b8)))),(49,(V.sl 1 3 (List.map j3 v9))),(50,(V.ptr 0 (0+(sqW ((a0.fTypes.length:Int) - 1)).toNat) 0)),(51,(V.ptr 0 (0+(sqW ((a0.fTypes.length:Int) - 1)).toNat) 4))]),[(0,⟨true,8,(List.map b5 a0.fTypes).set (0+(sqW ((a0.fTypes.length:Int) - 1)).toNat) (d9 v7)⟩),(94,⟨false,4,[(V.agg [(Sr a0.fName),(I a0.fKind),(V.aref 0 0 n_),(V.sl 1 4 (List.map d7 a0.fIndexes))])]⟩)],94⟩)) (e:=b5) (l:=a0.fTypes) (v:={ v7 with fFields:=v9 }) Z Z Z Z Z Z Z Z Z Z Z)) ?_
    exact j2 fun v0=>b6 Z
   refine et d8 $ kga Dy Z (fun (o1:Bool)=>[(55,(Bo o1))]) (rd 1 [(52,(sS a1))] Z Z $ rp Z (j6 (e:=V.str) Z Z Z underlying41 Z (by decide)) fun v2=>b6 Z) fun o1=>kc Z Z (fun hc=>?_) fun hc=>?_
   ·rw [hc]
    refine et d8 $ krp Dz Z (pX a0.fName a0.fKind o0 a0.fIndexes [(4,(Bo o6.2.2))]) ?_ ?_
    ·exact rd 1 [(56,(Bo o6.2.2))] Z Z $ et (ar (x:=some ()) (st1:=(bS o0 a0.fName a0.fKind a0.fIndexes (Q8 a1 [(5,(V.ptr 0 (0+(sqW ((a0.fTypes.length:Int) - 1)).toNat) 0)),(8,(Bo o6.2.2)),(55,(Bo true)),(56,(Bo o6.2.2))]))) (w:=fun _=>((Bo o6.2.2),(bS o0 a0.fName a0.fKind a0.fIndexes (Q8 a1 [(5,(V.ptr 0 (0+(sqW ((a0.fTypes.length:Int) - 1)).toNat) 0)),(8,(Bo o6.2.2)),(55,(Bo true)),(56,(Bo o6.2.2))])))) (u:=fun _=>(pX a0.fName a0.fKind o0 a0.fIndexes (Q8 a1 [(4,(Bo o6.2.2)),(5,V.undef),(8,(Bo o6.2.2)),(55,(Bo true)),(56,(Bo o6.2.2))]))) Z Z Z Z Z Z Z Z (fun _=>gh1 Z (bY Z Z Z Z Z))) $ et A6 $ i7 Z
    refine et L6 ?_
    rfl
   ·rw [hc]
    refine et l7 $ kg DA Z (fun (o3:Bool)=>(bS o0 a0.fName a0.fKind a0.fIndexes (Q8 a1 [(5,(V.ptr 0 (0+(sqW ((a0.fTypes.length:Int) - 1)).toNat) 0)),(8,(Bo o3))]))) ?_ fun o3=>?_
    ·refine rd 2 [(57,(Bo o6.2.2)),(58,(Bo o6.2.2))] Z Z $ u1 (fun hc=>?_) fun hc=>?_
     ·rw [hc]
      refine rd 5 [(59,(V.ptr 0 (0+(sqW ((a0.fTypes.length:Int) - 1)).toNat) 0)),(60,(V.ptr 0 (0+(sqW ((a0.fTypes.length:Int) - 1)).toNat) 0)),(61,(V.ptr 0 (0+(sqW ((a0.fTypes.length:Int) - 1)).toNat) 5))] Z Z $ rp Z (rm (e:=b5) (part:=fun a=>(I a.fKey)) Z Z Z (fun _=>rfl)) fun v6=>bd 9 [(62,(I v6.fKey)),(63,(Bo (decide (v6.fKey < 0)))),(64,(Bo (decide (v6.fKey < 0)))),(65,(Bo (decide (v6.fKey < 0))))] Z Z $ u1 (fun hc=>?_) fun hc=>?_
      ·rw [hc]
       refine rd 10 [(66,(sS a1))] Z Z $ rp Z (j6 (e:=V.str) Z Z Z underlying41 Z (by decide)) fun va=>bd 14 [(67,(Pr (Sr va))),(68,(Sr va)),(69,(Bo (va == ([85]:Str)))),(70,(Bo (va == ([85]:Str))))] Z Z $ u1 (fun hc=>?_) fun hc=>?_
       ·rw [hc]
        exact i7 Z
       ·rw [hc]
        exact rd 15 [(71,(sS a1))] Z Z $ rp Z (j6 (e:=V.str) Z Z Z underlying41 Z (by decide)) fun vb=>b6 Z
      ·rw [hc]
       exact i7 Z
     ·rw [hc]
      exact i7 Z
    refine kg DB Z (fun (o4:(List a7))=>(bS o4 a0.fName a0.fKind a0.fIndexes (Q8 a1 [(5,(V.ptr 0 (0+(sqW ((a0.fTypes.length:Int) - 1)).toNat) 0)),(8,(Bo o3))]))) ?_ fun o4=>?_
    ·refine rd 4 [(77,(V.ptr 0 (0+(sqW ((a0.fTypes.length:Int) - 1)).toNat) 0)),(78,(V.ptr 0 (0+(sqW ((a0.fTypes.length:Int) - 1)).toNat) 0)),(79,(V.ptr 0 (0+(sqW ((a0.fTypes.length:Int) - 1)).toNat) 0)),(80,(V.ptr 0 (0+(sqW ((a0.fTypes.length:Int) - 1)).toNat) 4))] Z Z $ rp Z (rm (e:=b5) (part:=fun a=>(c8 a.fFields)) Z Z Z (fun _=>rfl)) fun vc=>bd 5 [(81,(c8 vc.fFields))] Z Z $ rl Z (w7 (e:=j3) Z Z Z Z Z Z underlying50) $ bd 9 [(82,(I (vc.fFields.length:Int))),(83,(I (sqW ((vc.fFields.length:Int) - 1)))),(84,(V.ptr 0 (0+(sqW ((a0.fTypes.length:Int) - 1)).toNat) 0)),(85,(V.ptr 0 (0+(sqW ((a0.fTypes.length:Int) - 1)).toNat) 5))] Z Z $ et (B2 (x:=(o0[0+(sqW ((a0.fTypes.length:Int) - 1)).toNat]?)) (w:=fun vd=>(V.tup [],_)) Z Z Z Z (sY (S:=(fun n_=>⟨(Q8 a1 [(5,(V.ptr 0 (0+(sqW ((a0.fTypes.length:Int) - 1)).toNat) 0)),(8,(Bo o3)),(77,(V.ptr 0 (0+(sqW ((a0.fTypes.length:Int) - 1)).toNat) 0)),(78,(V.ptr 0 (0+(sqW ((a0.fTypes.length:Int) - 1)).toNat) 0)),(79,(V.ptr 0 (0+(sqW ((a0.fTypes.length:Int) - 1)).toNat) 0)),(80,(V.ptr 0 (0+(sqW ((a0.fTypes.length:Int) - 1)).toNat) 4)),(81,(c8 vc.fFields)),(82,(I (vc.fFields.length:Int))),(83,(I (sqW ((vc.fFields.length:Int) - 1)))),(84,(V.ptr 0 (0+(sqW ((a0.fTypes.length:Int) - 1)).toNat) 0)),(85,(V.ptr 0 (0+(sqW ((a0.fTypes.length:Int) - 1)).toNat) 5))]),[(0,⟨true,8,List.map b5 o0⟩),(94,⟨false,4,[(V.agg [(Sr a0.fName),(I a0.fKind),(V.aref 0 0 n_),(V.sl 1 4 (List.map d7 a0.fIndexes))])]⟩)],94⟩)) (e:=b5) (l:=o0) (u:=(I (sqW ((vc.fFields.length:Int) - 1)))) (upd:=fun vd=>{ vd with fKey:=(sqW ((vc.fFields.length:Int) - 1)) }) Z Z Z Z Z Z Z Z Z Z (fun _=>rfl))) ?_
     exact j2 fun vd=>b6 Z
    refine kg yX Z (fun (o5:(List a7))=>(bS o5 a0.fName a0.fKind a0.fIndexes [(0,(Pt 94)),(8,(Bo o3))])) ?_ fun o5=>?_
    ·refine rd 2 [(86,(V.ptr 0 (0+(sqW ((a0.fTypes.length:Int) - 1)).toNat) 0)),(87,(sS a1))] Z Z $ rp Z (j6 (e:=V.str) Z Z Z underlying41 Z (by decide)) fun ve=>bd 7 [(88,(Pr (Sr ve))),(89,(Sr ve)),(90,(Bo (ve == ([85]:Str)))),(91,(V.ptr 0 (0+(sqW ((a0.fTypes.length:Int) - 1)).toNat) 0)),(92,(V.ptr 0 (0+(sqW ((a0.fTypes.length:Int) - 1)).toNat) 6))] Z Z $ et (B2 (x:=(o4[0+(sqW ((a0.fTypes.length:Int) - 1)).toNat]?)) (w:=fun vf=>(V.tup [],_)) Z Z Z Z (sY (S:=(fun n_=>⟨(Q8 a1 [(5,(V.ptr 0 (0+(sqW ((a0.fTypes.length:Int) - 1)).toNat) 0)),(8,(Bo o3)),(86,(V.ptr 0 (0+(sqW ((a0.fTypes.length:Int) - 1)).toNat) 0)),(87,(sS a1)),(88,(Pr (Sr ve))),(89,(Sr ve)),(90,(Bo (ve == ([85]:Str)))),(91,(V.ptr 0 (0+(sqW ((a0.fTypes.length:Int) - 1)).toNat) 0)),(92,(V.ptr 0 (0+(sqW ((a0.fTypes.length:Int) - 1)).toNat) 6))]),[(0,⟨true,8,List.map b5 o4⟩),(94,⟨false,4,[(V.agg [(Sr a0.fName),(I a0.fKind),(V.aref 0 0 n_),(V.sl 1 4 (List.map d7 a0.fIndexes))])]⟩)],94⟩)) (e:=b5) (l:=o4) (u:=(Bo (ve == ([85]:Str)))) (upd:=fun vf=>{ vf with fUnique:=(ve == ([85]:Str)) }) Z Z Z Z Z Z Z Z Z Z (fun _=>rfl))) ?_
     exact j2 fun vf=>b6 Z
    refine krp yY Z (pX a0.fName a0.fKind o5 a0.fIndexes [(4,(Bo o3))]) ?_ ?_
    ·exact rd 1 [(93,(Bo o3))] Z Z $ et (ar (x:=some ()) (st1:=(bS o5 a0.fName a0.fKind a0.fIndexes [(0,(Pt 94)),(8,(Bo o3)),(93,(Bo o3))])) (w:=fun _=>((Bo o3),(bS o5 a0.fName a0.fKind a0.fIndexes [(0,(Pt 94)),(8,(Bo o3)),(93,(Bo o3))]))) (u:=fun _=>(pX a0.fName a0.fKind o5 a0.fIndexes [(0,(Pt 94)),(4,(Bo o3)),(8,(Bo o3)),(93,(Bo o3))])) Z Z Z Z Z Z Z Z (fun _=>gh1 Z (bY Z Z Z Z Z))) $ et A6 $ i7 Z
    refine et l5 ?_
    rfl
def jN:Bool→V×List V:=fun r=>((Bo r),[])
theorem lg (k:Nat) (a0:a7) (a1:(List Str)):EV k 74 [(d9 a0),(Pr (sS a1))]=(R2 k a0 a1).map jN:=by
 cases k with
 | zero=>rfl
 | succ k=>
  unfold R2
  refine et (l8 (c:=f74c) (N:=10) (regs:=GL) Z func74 Z (by decide) Z Z Z) $ kr ⟨(kQ a1 []),[(2,vS 8 (d9 a0))],10⟩ rfl $ kd Ee Z (fun (o2:Bool)=>⟨[(3,(Bo o2))],[],10⟩) (et (k0 (p:=7) (dk:=true) (t:=(kQ a1 [])) (σ:=[(2,vS 8 (d9 a0))]) (n:=10) Z (by decide) (by decide) Z) $ et (l9 (m:=3) (j:=3) (t':=(kQ a1 [(4,(Pt 2)),(5,(Sr a0.fName)),(6,(sS a1))])) Z Z Z) $ et (b4 (x:=(idx a1 2)) (w:=fun v1=>(Pr (Sr v1))) Z Z Z Z Z (j6 (e:=V.str) Z Z Z underlying41 Z (by decide))) $ j2 fun v1=>s7 Z) fun o2=>et l5 ?_
  rfl
def jO:Bool→V×List V:=fun r=>((Bo r),[])
theorem lh (k:Nat) (a0:b8) (a1:(List Str)):EV k 76 [(j3 a0),(Pr (sS a1))]=(R3 k a0 a1).map jO:=by
 cases k with
 | zero=>rfl
 | succ k=>
  unfold R3
  refine et (l8 (c:=f76c) (N:=10) (regs:=GM) Z func76 Z (by decide) Z Z Z) $ kr ⟨(kQ a1 []),[(2,vS 3 (j3 a0))],10⟩ rfl $ kd Ek Z (fun (o2:Bool)=>⟨[(3,(Bo o2))],[],10⟩) (et (k0 (p:=7) (dk:=true) (t:=(kQ a1 [])) (σ:=[(2,vS 3 (j3 a0))]) (n:=10) Z (by decide) (by decide) Z) $ et (l9 (m:=3) (j:=3) (t':=(kQ a1 [(4,(Pt 2)),(5,(Sr a0.fName)),(6,(sS a1))])) Z Z Z) $ et (b4 (x:=(idx a1 3)) (w:=fun v1=>(Pr (Sr v1))) Z Z Z Z Z (j6 (e:=V.str) Z Z Z underlying41 Z (by decide))) $ j2 fun v1=>s7 Z) fun o2=>et l5 ?_
  rfl
def fO:Int→V×List V:=fun r=>(I r,[])
theorem bz (k:Nat) (s:Str) (n:Int):EV k 77 [(Sr s),(sqU n)]=(strings_IndexByte k s n).map fO:=by
 cases k with
 | zero=>rfl
 | succ k=>exact (af (ext:=ext) (f:=77) Z).trans Z
def mJ:(Bool×a6)→V×List V:=fun r=>((Bo r.1),[(V.io (V.agg [(Sr r.2.fName),(I r.2.fKind),(V.sl 3 8 (List.map b5 r.2.fTypes)),(V.sl 1 4 (List.map d7 r.2.fIndexes))]))])
theorem nu (k:Nat) (a0:a6) (a1:(List Str)):EV k 48 [(V.io (V.agg [(Sr a0.fName),(I a0.fKind),(V.sl 3 8 (List.map b5 a0.fTypes)),(V.sl 1 4 (List.map d7 a0.fIndexes))])),(sS a1)]=(K3 k a0 a1).map mJ:=by
 cases k with
 | zero=>rfl
 | succ k=>
  unfold K3
  refine et (l8 (c:=f48c) (N:=76) (regs:=Gl) Z func48 Z (by decide) Z Z Z) $ kr (rH a1 a0.fName a0.fKind a0.fTypes a0.fIndexes (iJ [])) Z $ kg DC Z (fun (o2:Int×(List a7))=>(aw o2.2 a1 a0.fName a0.fKind a0.fIndexes (iJ [(5,(I o2.1))]))) (et (ar (x:=some ()) (st1:=(aw a0.fTypes a1 a0.fName a0.fKind a0.fIndexes (iJ []))) (w:=fun _=>((Pt 76),(aw a0.fTypes a1 a0.fName a0.fKind a0.fIndexes (iJ [])))) (u:=fun _=>(aw a0.fTypes a1 a0.fName a0.fKind a0.fIndexes (iJ [(10,(Pt 76))]))) Z Z Z Z Z Z Z Z (fun _=>rfl)) $ et A6 $ rd 5 [(11,(Pt 76)),(12,(V.ptr 76 0 2)),(13,(aL 0 b5 a0.fTypes)),(14,(V.fn 74 [] [(Pt 3)]))] Z Z $ rp Z (j9 Z Z Z Z (pi (zE (e:=b5) (e':=d9) (fun _=>rfl) Z) (by intro s i q h; cases h) (pi Z (by intro s i q h; cases h) Z)) (O6 k a0.fTypes (fun j x0=>(R2 j x0 a1)) 74 (sS a1) (fun j x0=>(lg j x0 a1))) (.inr (fun _=>rfl))) fun v1=>b6 Z) fun o2=>et d8 $ kra [(17,(Bo (decide (o2.1 < 0))))] Z $ kc Z Z (fun hc=>?_) fun hc=>?_
  ·rw [hc]
   refine et d8 $ krp DD Z (jt a0.fName a0.fKind o2.2 a0.fIndexes (Z2 [])) ?_ ?_
   ·exact et (ar (x:=some ()) (st1:=(aw o2.2 a1 a0.fName a0.fKind a0.fIndexes (iJ [(5,(I o2.1)),(17,(Bo true))]))) (w:=fun _=>((Bo false),(aw o2.2 a1 a0.fName a0.fKind a0.fIndexes (iJ [(5,(I o2.1)),(17,(Bo true))])))) (u:=fun _=>(rH a1 a0.fName a0.fKind o2.2 a0.fIndexes (iJ [(4,(Bo false)),(5,(I o2.1)),(17,(Bo true))]))) Z Z Z Z Z Z Z Z (fun _=>gh1 Z (bY Z Z Z Z Z))) $ et A6 $ i7 Z
   refine et L6 ?_
   rfl
  ·rw [hc]
   refine et l7 $ kg DE Z (fun (o6:Int)=>(aw o2.2 a1 a0.fName a0.fKind a0.fIndexes (fG o2.1 o6 []))) (rd 5 [(18,(Pt 76)),(19,(Pt 76)),(20,(V.ptr 76 0 2)),(21,(aL 0 b5 o2.2)),(22,(I o2.1))] Z Z $ rp Z (sX (e:=b5) Z Z Z underlying23 Z Z (by decide)) fun v3=>bd 7 [(23,(V.ptr 0 (0+o2.1.toNat) 0)),(24,(V.ptr 0 (0+o2.1.toNat) 4))] Z Z $ rp Z (rm (e:=b5) (part:=fun a=>(c8 a.fFields)) Z Z Z (fun _=>rfl)) fun v4=>bd 9 [(25,(c8 v4.fFields)),(26,(V.fn 76 [] [(Pt 3)]))] Z Z $ rs Z (j9 Z Z Z Z Z (U9 k v4.fFields (fun j x0=>(R3 j x0 a1)) 76 (sS a1) (fun j x0=>(lh j x0 a1))) (.inr (fun _=>rfl))) fun v5=>b6 Z) fun o6=>kra [(7,(Sr ([]:Str)))] Z $ et d8 $ kga DF Z (fun (o8:Bool)=>[(31,(Bo o8))]) (rd 1 [(28,(sS a1))] Z Z $ rp Z (j6 (e:=V.str) Z Z Z underlying41 Z (by decide)) fun v7=>b6 Z) fun o8=>kc Z Z (fun hc=>?_) fun hc=>?_
   ·rw [hc]
    refine et d8 $ et d8 $ kg DG Z (fun (o0:Bool)=>(aw o2.2 a1 a0.fName a0.fKind a0.fIndexes (fG o2.1 o6 [(36,(Bo o0))]))) (rd 1 [(32,(sS a1))] Z Z $ rp Z (j6 (e:=V.str) Z Z Z underlying41 Z (by decide)) fun v9=>b6 Z) fun o0=>kc Z Z (fun hc=>?_) fun hc=>?_
    ·rw [hc]
     refine et d8 $ krp DH Z (jt a0.fName a0.fKind o2.2 a0.fIndexes (Z2 [])) ?_ ?_
     ·exact et (ar (x:=some ()) (st1:=(aw o2.2 a1 a0.fName a0.fKind a0.fIndexes (fG o2.1 o6 [(36,(Bo true))]))) (w:=fun _=>((Bo false),(aw o2.2 a1 a0.fName a0.fKind a0.fIndexes (fG o2.1 o6 [(36,(Bo true))])))) (u:=fun _=>(rH a1 a0.fName a0.fKind o2.2 a0.fIndexes (iJ [(4,(Bo false)),(5,(I o2.1)),(6,(I o6)),(36,(Bo true))]))) Z Z Z Z Z Z Z Z (fun _=>gh1 Z (bY Z Z Z Z Z))) $ et A6 $ i7 Z
     refine et L6 ?_
     rfl
    ·rw [hc]
     refine et l7 $ et d8 $ kd DI Z (fun (o1:Int×Int)=>(aw o2.2 a1 a0.fName a0.fKind a0.fIndexes (fG o2.1 o6 [(8,(I o1.1)),(9,(I o1.2))]))) (et (k0 (p:=12) (dk:=true) (t:=(fG o2.1 o6 [(36,(Bo false))])) (σ:=(EQ o2.2 a1 a0.fName a0.fKind a0.fIndexes)) (n:=76) Z (by decide) (by decide) Z) $ et (l9 (m:=1) (j:=1) (t':=(fG o2.1 o6 [(36,(Bo false)),(37,(sS a1))])) Z Z Z) $ et (b4 (x:=(idx a1 4)) (w:=fun v0=>(Pr (Sr v0))) Z Z Z Z Z (j6 (e:=V.str) Z Z Z underlying41 Z (by decide))) $ j2 fun v0=>et (b9 (m:=1) (j:=3) (t':=(tz o2.1 o6 a1 v0 [])) Z Z Z) $ et (b4 (x:=(X6 v0 0)) (w:=fun v2=>(sqU v2)) Z Z Z Z Z (M0 Z Z Z underlying9)) $ j2 fun v2=>et (b9 (m:=0) (j:=4) (t':=(tz o2.1 o6 a1 v0 [(40,(sqU v2))])) Z Z Z) $ et (b4 (x:=(strings_IndexByte k ([48,49,50,51,52,53,54,55,56,57,97,98,99,100,101,102]:Str) v2)) (w:=fun v6=>(I v6)) Z Z Z Z Z (j9 Z Z Z Z Z (bz k ([48,49,50,51,52,53,54,55,56,57,97,98,99,100,101,102]:Str) v2) (.inl Z))) $ j2 fun v6=>et (b9 (m:=1) (j:=6) (t':=(tz o2.1 o6 a1 v0 [(40,(sqU v2)),(41,(I v6)),(42,(sS a1))])) Z Z Z) $ et (b4 (x:=(idx a1 4)) (w:=fun v8=>(Pr (Sr v8))) Z Z Z Z Z (j6 (e:=V.str) Z Z Z underlying41 Z (by decide))) $ j2 fun v8=>et (b9 (m:=1) (j:=8) (t':=(tz o2.1 o6 a1 v0 [(40,(sqU v2)),(41,(I v6)),(42,(sS a1)),(43,(Pr (Sr v8))),(44,(Sr v8))])) Z Z Z) $ et (b4 (x:=(X6 v8 1)) (w:=fun va=>(sqU va)) Z Z Z Z Z (M0 Z Z Z underlying9)) $ j2 fun va=>et (b9 (m:=0) (j:=9) (t':=(tz o2.1 o6 a1 v0 [(40,(sqU v2)),(41,(I v6)),(42,(sS a1)),(43,(Pr (Sr v8))),(44,(Sr v8)),(45,(sqU va))])) Z Z Z) $ et (b4 (x:=(strings_IndexByte k ([48,49,50,51,52,53,54,55,56,57,97,98,99,100,101,102]:Str) va)) (w:=fun vb=>(I vb)) Z Z Z Z Z (j9 Z Z Z Z Z (bz k ([48,49,50,51,52,53,54,55,56,57,97,98,99,100,101,102]:Str) va) (.inl Z))) $ j2 fun vb=>s7 Z) fun o1=>et d8 $ et d8 $ kga yZ Z (fun (o3:Bool)=>[(52,(Bo o3))]) ?_ fun o3=>?_
     ·refine rd 3 [(47,(I o1.1)),(48,(Bo (decide (o1.1 < 0)))),(49,(Bo (decide (o1.1 < 0))))] Z Z $ u1 (fun hc=>?_) fun hc=>?_
      ·rw [hc]
       exact i7 Z
      ·rw [hc]
       exact i7 Z
     refine kc Z Z (fun hc=>?_) fun hc=>?_
     ·rw [hc]
      refine et d8 $ krp za Z (jt a0.fName a0.fKind o2.2 a0.fIndexes (Z2 [])) ?_ ?_
      ·exact et (ar (x:=some ()) (st1:=(aw o2.2 a1 a0.fName a0.fKind a0.fIndexes (fG o2.1 o6 [(8,(I o1.1)),(9,(I o1.2)),(52,(Bo true))]))) (w:=fun _=>((Bo false),(aw o2.2 a1 a0.fName a0.fKind a0.fIndexes (fG o2.1 o6 [(8,(I o1.1)),(9,(I o1.2)),(52,(Bo true))])))) (u:=fun _=>(rH a1 a0.fName a0.fKind o2.2 a0.fIndexes (iJ [(4,(Bo false)),(5,(I o2.1)),(6,(I o6)),(8,(I o1.1)),(9,(I o1.2)),(52,(Bo true))]))) Z Z Z Z Z Z Z Z (fun _=>gh1 Z (bY Z Z Z Z Z))) $ et A6 $ i7 Z
      refine et L6 ?_
      rfl
     ·rw [hc]
      refine et l7 $ kg zb Z (fun (o4:Str)=>(aw o2.2 a1 a0.fName a0.fKind a0.fIndexes (fG o2.1 o6 [(7,(Sr o4))]))) (rd 1 [(53,(I o1.1))] Z Z $ rp Z (He Z Z Z) fun vc=>bd 6 [(54,(I vc)),(55,(I o1.2)),(56,(I (orI .i64 vc o1.2))),(57,(sqU (sqB (orI .i64 vc o1.2)))),(58,(V.sl 0 1 (List.map (sqU) ([(sqB (orI .i64 vc o1.2))]:List Int))))] Z Z $ rl Z (zN (l:=([(sqB (orI .i64 vc o1.2))]:List Int)) Z Z underlying58 underlying9 underlying5) $ b6 Z) fun o4=>kd ul Z (fun (o5:(List a8))=>(lN o2.2 a0.fName a0.fKind o5 [(0,(Pt 76))])) (et (au (by decide)) $ ra 6 6 ⟨(fG o2.1 o6 [(7,(Sr o4)),(60,(Pt 76)),(61,(Pt 76)),(62,(Pt 76)),(63,(V.ptr 76 0 3)),(64,(V.sl 1 4 (List.map d7 a0.fIndexes))),(65,(sS a1))]),[(0,⟨true,8,List.map b5 o2.2⟩),(3,vS 1 (sS a1)),(76,⟨false,4,[(V.agg [(Sr a0.fName),(I a0.fKind),(aL 0 b5 o2.2),(i8 a0.fIndexes)])]⟩)],76⟩ rfl Z Z $ rp Z (j6 (e:=V.str) Z Z Z underlying41 Z (by decide)) fun vd=>bd 13 [(66,(Pr (Sr vd))),(67,(Sr vd)),(68,(I o2.1)),(69,(I o6)),(70,(Sr o4)),(71,(d7 ({ fName:=vd,fType:=o2.1,fField:=o6,fSparse:=o4 }:a8))),(72,(i8 (([({ fName:=vd,fType:=o2.1,fField:=o6,fSparse:=o4 }:a8)]:List a8))))] Z Z $ et (B2 (x:=(app a0.fIndexes ([({ fName:=vd,fType:=o2.1,fField:=o6,fSparse:=o4 }:a8)]:List a8))) (w:=fun ve=>((V.sl 1 4 (List.map d7 ve)),_)) Z Z Z Z (sV (e:=d7) Z Z Z Z Z Z Z Z Z Z (by decide))) $ u7 fun ve=>b6 Z) fun o5=>krp um Z (jt a0.fName a0.fKind o2.2 o5 [(4,(Bo true))]) ?_ ?_
      ·exact et (ar (x:=some ()) (st1:=(lN o2.2 a0.fName a0.fKind o5 [(0,(Pt 76))])) (w:=fun _=>((Bo true),(lN o2.2 a0.fName a0.fKind o5 [(0,(Pt 76))]))) (u:=fun _=>(jt a0.fName a0.fKind o2.2 o5 [(0,(Pt 76)),(4,(Bo true))])) Z Z Z Z Z Z Z Z (fun _=>gh1 Z (bY Z Z Z Z Z))) $ et A6 $ i7 Z
      refine et l5 ?_
      rfl
   ·rw [hc]
    refine et l7 $ kd ul Z (fun (o7:(List a8))=>(lN o2.2 a0.fName a0.fKind o7 [(0,(Pt 76))])) (et (au (by decide)) $ ra 6 6 ⟨(fG o2.1 o6 [(7,(Sr ([]:Str))),(31,(Bo false)),(60,(Pt 76)),(61,(Pt 76)),(62,(Pt 76)),(63,(V.ptr 76 0 3)),(64,(V.sl 1 4 (List.map d7 a0.fIndexes))),(65,(sS a1))]),[(0,⟨true,8,List.map b5 o2.2⟩),(3,vS 1 (sS a1)),(76,⟨false,4,[(V.agg [(Sr a0.fName),(I a0.fKind),(aL 0 b5 o2.2),(i8 a0.fIndexes)])]⟩)],76⟩ rfl Z Z $ rp Z (j6 (e:=V.str) Z Z Z underlying41 Z (by decide)) fun vf=>bd 13 [(66,(Pr (Sr vf))),(67,(Sr vf)),(68,(I o2.1)),(69,(I o6)),(70,(Sr ([]:Str))),(71,(d7 ({ fName:=vf,fType:=o2.1,fField:=o6,fSparse:=([]:Str) }:a8))),(72,(i8 (([({ fName:=vf,fType:=o2.1,fField:=o6,fSparse:=([]:Str) }:a8)]:List a8))))] Z Z $ et (B2 (x:=(app a0.fIndexes ([({ fName:=vf,fType:=o2.1,fField:=o6,fSparse:=([]:Str) }:a8)]:List a8))) (w:=fun vg=>((V.sl 1 4 (List.map d7 vg)),_)) Z Z Z Z (sV (e:=d7) Z Z Z Z Z Z Z Z Z Z (by decide))) $ u7 fun vg=>b6 Z) fun o7=>krp um Z (jt a0.fName a0.fKind o2.2 o7 [(4,(Bo true))]) ?_ ?_
    ·exact et (ar (x:=some ()) (st1:=(lN o2.2 a0.fName a0.fKind o7 [(0,(Pt 76))])) (w:=fun _=>((Bo true),(lN o2.2 a0.fName a0.fKind o7 [(0,(Pt 76))]))) (u:=fun _=>(jt a0.fName a0.fKind o2.2 o7 [(0,(Pt 76)),(4,(Bo true))])) Z Z Z Z Z Z Z Z (fun _=>gh1 Z (bY Z Z Z Z Z))) $ et A6 $ i7 Z
    refine et l5 ?_
    rfl
def rW:(Bool×a6)→V×List V:=fun r=>((Bo r.1),[(V.io (V.agg [(Sr r.2.fName),(I r.2.fKind),(V.sl 3 8 (List.map b5 r.2.fTypes)),(V.sl 1 4 (List.map d7 r.2.fIndexes))]))])
theorem uc (k:Nat) (a0:a6) (a1:(List Str)):EV k 25 [(V.io (V.agg [(Sr a0.fName),(I a0.fKind),(V.sl 3 8 (List.map b5 a0.fTypes)),(V.sl 1 4 (List.map d7 a0.fIndexes))])),(sS a1)]=(T8 k a0 a1).map rW:=by
 cases k with
 | zero=>rfl
 | succ k=>
  unfold T8
  refine et (l8 (c:=f25c) (N:=60) (regs:=Ge) Z func25 Z (by decide) Z Z Z) $ kra [] Z $ et (l6 Z) $ kga Cn Z (fun (o2:Bool)=>[(5,(Bo o2))]) ?_ fun o2=>?_
  ·refine rd 1 [(6,(sS a1))] Z Z $ rl Z (w7 (e:=V.str) Z Z Z Z Z Z underlying41) $ bd 4 [(7,(I (a1.length:Int))),(8,(Bo ((a1.length:Int) == 6))),(9,(Bo ((a1.length:Int) == 6)))] Z Z $ u1 (fun hc=>?_) fun hc=>?_
   ·rw [hc]
    refine rd 5 [(10,(sS a1))] Z Z $ rp Z (j6 (e:=V.str) Z Z Z underlying41 Z (by decide)) fun v1=>bd 10 [(11,(Pr (Sr v1))),(12,(Sr v1)),(13,(Bo (v1 == ([83,69,71,77]:Str)))),(14,(Bo (v1 == ([83,69,71,77]:Str)))),(15,(Bo (v1 == ([83,69,71,77]:Str))))] Z Z $ u1 (fun hc=>?_) fun hc=>?_
    ·rw [hc]
     exact rd 14 [(16,(Pt 60)),(17,(Pt 60)),(18,(V.ptr 60 0 3)),(19,(i8 a0.fIndexes))] Z Z $ rl Z (w7 (e:=d7) Z Z Z Z Z Z underlying24) $ b6 Z
    ·rw [hc]
     exact i7 Z
   ·rw [hc]
    exact i7 Z
  refine kcl Z Z (fun hc=>?_) fun hc=>?_
  ·rw [hc]
   refine kg Co Z (fun (o4:Bool×Str×Int×(List a7)×(List a8))=>(lO o4.2.1 o4.2.2.1 o4.2.2.2.1 o4.2.2.2.2 [(4,(Bo o4.1))])) (rd 2 [(23,(Pt 60)),(24,(sS a1))] Z Z $ et (B2 (x:=(Y5 k ({ fName:=a0.fName,fKind:=a0.fKind,fTypes:=a0.fTypes,fIndexes:=a0.fIndexes }:a6) a1)) (w:=fun (v3:(Bool×a6))=>((Bo v3.1),_)) Z Z Z Z (I2 (fr:=fun (v3:(Bool×a6))=>(Bo v3.1)) (fe:=fun (v3:(Bool×a6))=>(V.agg [(Sr v3.2.fName),(I v3.2.fKind),(V.sl 3 8 (List.map b5 v3.2.fTypes)),(V.sl 1 4 (List.map d7 v3.2.fIndexes))])) (fe':=fun (v3:(Bool×a6))=>(V.agg [(Sr v3.2.fName),(I v3.2.fKind),(V.sl 3 8 (List.map b5 v3.2.fTypes)),(V.sl 1 4 (List.map d7 v3.2.fIndexes))])) Z Z Z Z Z Z Z (qv k ({ fName:=a0.fName,fKind:=a0.fKind,fTypes:=a0.fTypes,fIndexes:=a0.fIndexes }:a6) a1) (fun _=>rfl))) $ j2 fun v3=>b6 Z) fun o4=>et l5 $ et w6 ?_
   rfl
  ·rw [hc]
   refine kg Cp Z (fun (o6:Bool)=>(lO a0.fName a0.fKind a0.fTypes a0.fIndexes [(0,(Pt 60)),(1,(sS a1)),(26,(Bo o6))])) ?_ fun o6=>?_
   ·refine rd 1 [(27,(sS a1))] Z Z $ rl Z (w7 (e:=V.str) Z Z Z Z Z Z underlying41) $ bd 4 [(28,(I (a1.length:Int))),(29,(Bo ((a1.length:Int) == 5))),(30,(Bo ((a1.length:Int) == 5)))] Z Z $ u1 (fun hc=>?_) fun hc=>?_
    ·rw [hc]
     refine rd 5 [(31,(sS a1))] Z Z $ rp Z (j6 (e:=V.str) Z Z Z underlying41 Z (by decide)) fun v5=>bd 10 [(32,(Pr (Sr v5))),(33,(Sr v5)),(34,(Bo (v5 == ([70,73,69,76,68]:Str)))),(35,(Bo (v5 == ([70,73,69,76,68]:Str)))),(36,(Bo (v5 == ([70,73,69,76,68]:Str))))] Z Z $ u1 (fun hc=>?_) fun hc=>?_
     ·rw [hc]
      exact rd 14 [(37,(Pt 60)),(38,(Pt 60)),(39,(V.ptr 60 0 3)),(40,(i8 a0.fIndexes))] Z Z $ rl Z (w7 (e:=d7) Z Z Z Z Z Z underlying24) $ b6 Z
     ·rw [hc]
      exact i7 Z
    ·rw [hc]
     exact i7 Z
   refine kcl Z Z (fun hc=>?_) fun hc=>?_
   ·rw [hc]
    refine kg Cq Z (fun (o8:Bool×Str×Int×(List a7)×(List a8))=>(lO o8.2.1 o8.2.2.1 o8.2.2.2.1 o8.2.2.2.2 [(4,(Bo o8.1))])) (rd 2 [(44,(Pt 60)),(45,(sS a1))] Z Z $ et (B2 (x:=(N5 k ({ fName:=a0.fName,fKind:=a0.fKind,fTypes:=a0.fTypes,fIndexes:=a0.fIndexes }:a6) a1)) (w:=fun (v7:(Bool×a6))=>((Bo v7.1),_)) Z Z Z Z (I2 (fr:=fun (v7:(Bool×a6))=>(Bo v7.1)) (fe:=fun (v7:(Bool×a6))=>(V.agg [(Sr v7.2.fName),(I v7.2.fKind),(V.sl 3 8 (List.map b5 v7.2.fTypes)),(V.sl 1 4 (List.map d7 v7.2.fIndexes))])) (fe':=fun (v7:(Bool×a6))=>(V.agg [(Sr v7.2.fName),(I v7.2.fKind),(V.sl 3 8 (List.map b5 v7.2.fTypes)),(V.sl 1 4 (List.map d7 v7.2.fIndexes))])) Z Z Z Z Z Z Z (nt k ({ fName:=a0.fName,fKind:=a0.fKind,fTypes:=a0.fTypes,fIndexes:=a0.fIndexes }:a6) a1) (fun _=>rfl))) $ j2 fun v7=>b6 Z) fun o8=>et l5 $ et w6 ?_
    rfl
   ·rw [hc]
    refine kg Cr Z (fun (o0:Bool)=>(lO a0.fName a0.fKind a0.fTypes a0.fIndexes [(0,(Pt 60)),(1,(sS a1)),(47,(Bo o0))])) ?_ fun o0=>?_
    ·refine rd 1 [(48,(sS a1))] Z Z $ rl Z (w7 (e:=V.str) Z Z Z Z Z Z underlying41) $ bd 4 [(49,(I (a1.length:Int))),(50,(Bo ((a1.length:Int) == 5))),(51,(Bo ((a1.length:Int) == 5)))] Z Z $ u1 (fun hc=>?_) fun hc=>?_
     ·rw [hc]
      exact rd 5 [(52,(sS a1))] Z Z $ rp Z (j6 (e:=V.str) Z Z Z underlying41 Z (by decide)) fun v9=>b6 Z
     ·rw [hc]
      exact i7 Z
    refine kcl Z Z (fun hc=>?_) fun hc=>?_
    ·rw [hc]
     refine kg Cs Z (fun (o1:Bool×Str×Int×(List a7)×(List a8))=>(lO o1.2.1 o1.2.2.1 o1.2.2.2.1 o1.2.2.2.2 [(4,(Bo o1.1))])) (rd 2 [(57,(Pt 60)),(58,(sS a1))] Z Z $ et (B2 (x:=(K3 k ({ fName:=a0.fName,fKind:=a0.fKind,fTypes:=a0.fTypes,fIndexes:=a0.fIndexes }:a6) a1)) (w:=fun (v0:(Bool×a6))=>((Bo v0.1),_)) Z Z Z Z (I2 (fr:=fun (v0:(Bool×a6))=>(Bo v0.1)) (fe:=fun (v0:(Bool×a6))=>(V.agg [(Sr v0.2.fName),(I v0.2.fKind),(V.sl 3 8 (List.map b5 v0.2.fTypes)),(V.sl 1 4 (List.map d7 v0.2.fIndexes))])) (fe':=fun (v0:(Bool×a6))=>(V.agg [(Sr v0.2.fName),(I v0.2.fKind),(V.sl 3 8 (List.map b5 v0.2.fTypes)),(V.sl 1 4 (List.map d7 v0.2.fIndexes))])) Z Z Z Z Z Z Z (nu k ({ fName:=a0.fName,fKind:=a0.fKind,fTypes:=a0.fTypes,fIndexes:=a0.fIndexes }:a6) a1) (fun _=>rfl))) $ j2 fun v0=>b6 Z) fun o1=>et l5 $ et w6 ?_
     rfl
    ·rw [hc]
     refine et w9 $ et j8 $ kr (lO a0.fName a0.fKind a0.fTypes a0.fIndexes (Z2 [])) Z $ et l5 ?_
     rfl
def aW:(a6×Int)→V×List V:=fun r=>(.tup [(j5 r.1),(I r.2)],[])
theorem mE (k:Nat) (a0:Str) (o2:(List Str)×Int×Int)  (K0:Int→Str→Int→Str→Int→(List a7)→(List a8)→Option (a6×Int)) (K1:Int→Str→Int→(List a7)→(List a8)→Option (a6×Int)) (Kst:X×St→Option (V×List V)) (hK0:∀ (y0:Int) (y1:Str) (y2:Int) (y3:Str) (y4:Int) (y5:(List a7)) (y6:(List a8)),Kst (X.exit 0,(V3 y3 y4 y5 y6 (tA a0 y0 y1 o2.1 o2.2.1 y2 [(20,(Bo true))])))=(K0 y0 y1 y2 y3 y4 y5 y6).map aW) (hK1:∀ (y0:Int) (y1:Str) (y2:Int) (y3:(List a7)) (y4:(List a8)),Kst (X.exit 0,(V3 y1 y2 y3 y4 (iI a0 o2.1 o2.2.1 y0 [(15,(Bo false))])))=(K1 y0 y1 y2 y3 y4).map aW) (hret:∀ s,Kst (X.ret,s)=R6 prog 67 [(Sr a0)] [] [.cell 2 26,.tmp 3] (X.ret,s)):
  ∀ (m:Nat) (x0:Int) (x1:Str) (x2:Int) (x3:(List a7)) (x4:(List a8)),(M9 (D0 prog (EV k) f6n k GI) m (V3 x1 x2 x3 x4 (iI a0 o2.1 o2.2.1 x0 []))).bind Kst=(D4 k o2 K0 K1 m x0 x1 x2 x3 x4).map aW:=by
 intro m
 induction m with
 | zero=>intros; rfl
 | succ m ih=>
  intro x0 x1 x2 x3 x4
  unfold D4
  refine et A5 $ kra [(15,(Bo (decide (x0 < o2.2.1))))] Z $ kc Z Z (fun hc=>?_) fun hc=>?_
  ·rw [hc]
   refine et l7 $ et (l6 Z) $ kg GF Z (fun (o0:Int×Str)=>(V3 x1 x2 x3 x4 (tA a0 o0.1 o0.2 o2.1 o2.2.1 x0 []))) (rd 1 [(16,(I x0))] Z Z $ rp Z (j6 (e:=V.str) Z Z Z underlying41 Z (by decide)) fun v0=>b6 Z) fun o0=>et d8 $ kra [(20,(Bo (o0.2 == ([]:Str))))] Z $ kc Z Z (fun hc=>?_) fun hc=>?_
   ·rw [hc]
    exact et C7 $ et (xd Z) $ et s6 $ hK0 o0.1 o0.2 x0 x1 x2 x3 x4
   ·rw [hc]
    refine et l7 $ kg GG Z (fun (o1:(List Str))=>(V3 x1 x2 x3 x4 (iH a0 [(5,(I o0.1)),(7,(sS o1)),(12,(sS o2.1)),(13,(I o2.2.1)),(14,(I x0))]))) (rd 1 [(21,(Sr o0.2))] Z Z $ rp Z (j9 Z Z Z Z Z (fQ k o0.2 ([10]:Str)) (.inl Z)) fun v1=>bd 2 [(22,(Sr v1))] Z Z $ rs Z (j9 Z Z Z Z Z (lS k v1 ([32]:Str)) (.inl Z)) fun v2=>b6 Z) fun o1=>kr (V3 x1 x2 x3 x4 (iH a0 [(5,(I o0.1)),(7,(sS o1)),(8,(Bo false)),(12,(sS o2.1)),(13,(I o2.2.1)),(14,(I x0))])) Z $ et d8 $ kr (V3 x1 x2 x3 x4 (iH a0 [(7,(sS o1)),(8,(Bo false)),(12,(sS o2.1)),(13,(I o2.2.1)),(14,(I x0)),(25,(Bo (o0.1 == 0)))])) Z $ kc Z Z (fun hc=>?_) fun hc=>?_
    ·rw [hc]
     refine et d8 $ kg GH Z (fun (o3:Bool)=>(V3 x1 x2 x3 x4 (iH a0 [(7,(sS o1)),(8,(Bo false)),(12,(sS o2.1)),(13,(I o2.2.1)),(14,(I x0)),(34,(Bo o3))]))) ?_ fun o3=>?_
     ·refine rd 1 [(26,(sS o1))] Z Z $ rl Z (w7 (e:=V.str) Z Z Z Z Z Z underlying41) $ bd 4 [(27,(I (o1.length:Int))),(28,(Bo ((o1.length:Int) == 3))),(29,(Bo ((o1.length:Int) == 3)))] Z Z $ u1 (fun hc=>?_) fun hc=>?_
      ·rw [hc]
       exact rd 5 [(30,(sS o1))] Z Z $ rp Z (j6 (e:=V.str) Z Z Z underlying41 Z (by decide)) fun v3=>b6 Z
      ·rw [hc]
       exact i7 Z
     refine kc Z Z (fun hc=>?_) fun hc=>?_
     ·rw [hc]
      refine et d8 $ kg DU Z (fun (o4:Str)=>(V3 o4 x2 x3 x4 (iH a0 [(7,(sS o1)),(12,(sS o2.1)),(13,(I o2.2.1)),(14,(I x0))]))) (rd 1 [(35,(sS o1))] Z Z $ rs Z (j6 (e:=V.str) Z Z Z underlying41 Z (by decide)) fun v4=>b6 Z) fun o4=>kg DV Z (fun (o5:Bool×Int)=>(V3 o4 o5.2 x3 x4 (iH a0 [(8,(Bo o5.1)),(12,(sS o2.1)),(13,(I o2.2.1)),(14,(I x0))]))) (rd 1 [(40,(sS o1))] Z Z $ rp Z (j6 (e:=V.str) Z Z Z underlying41 Z (by decide)) fun v5=>bd 3 [(41,(Pr (Sr v5))),(42,(Sr v5))] Z Z $ rp Z (j9 Z Z Z Z Z (dB k v5) (.inl Z)) fun v6=>b6 Z) fun o5=>kr (V3 o4 o5.2 x3 x4 (iI a0 o2.1 o2.2.1 x0 [(50,(Bo (!o5.1)))])) Z $ kcl Z Z (fun hc=>?_) fun hc=>?_
      ·rw [hc]
       refine kr ⟨[(2,(Pt 2)),(3,(I 3))],[(2,⟨false,4,[(j5 ({ fName:=[],fKind:=0,fTypes:=([]:List a7),fIndexes:=([]:List a8) }:a6))]⟩)],67⟩ rfl $ et l5 $ et w6 $ et x9 $ et (hret _) ?_
       rfl
      ·rw [hc]
       exact et w9 $ et j8 $ kl (V3 o4 o5.2 x3 x4 (iI a0 o2.1 o2.2.1 (sqW (x0+1)) [])) Z $ et j7 $ ih (sqW (x0+1)) o4 o5.2 x3 x4
     ·rw [hc]
      refine et l7 $ kr (V3 x1 x2 x3 x4 (iI a0 o2.1 o2.2.1 x0 [(50,(Bo true))])) Z $ et (wk (t:=true) Z Z) $ kr ⟨[(2,(Pt 2)),(3,(I 3))],[(2,⟨false,4,[(j5 ({ fName:=[],fKind:=0,fTypes:=([]:List a7),fIndexes:=([]:List a8) }:a6))]⟩)],67⟩ rfl $ et l5 $ et w6 $ et x9 $ et (hret _) ?_
      rfl
    ·rw [hc]
     refine kg DW Z (fun (o6:Bool×Str×Int×(List a7)×(List a8))=>(V3 o6.2.1 o6.2.2.1 o6.2.2.2.1 o6.2.2.2.2 (iH a0 [(8,(Bo o6.1)),(12,(sS o2.1)),(13,(I o2.2.1)),(14,(I x0))]))) (rd 1 [(47,(sS o1))] Z Z $ et (B2 (x:=(T8 k ({ fName:=x1,fKind:=x2,fTypes:=x3,fIndexes:=x4 }:a6) o1)) (w:=fun (v7:(Bool×a6))=>((Bo v7.1),_)) Z Z Z Z (I2 (fr:=fun (v7:(Bool×a6))=>(Bo v7.1)) (fe:=fun (v7:(Bool×a6))=>(V.agg [(Sr v7.2.fName),(I v7.2.fKind),(V.sl 3 8 (List.map b5 v7.2.fTypes)),(V.sl 1 4 (List.map d7 v7.2.fIndexes))])) (fe':=fun (v7:(Bool×a6))=>(V.agg [(Sr v7.2.fName),(I v7.2.fKind),(V.sl 3 8 (List.map b5 v7.2.fTypes)),(V.sl 1 4 (List.map d7 v7.2.fIndexes))])) Z Z Z Z Z Z Z (uc k ({ fName:=x1,fKind:=x2,fTypes:=x3,fIndexes:=x4 }:a6) o1) (fun _=>rfl))) $ j2 fun v7=>b6 Z) fun o6=>kr (V3 o6.2.1 o6.2.2.1 o6.2.2.2.1 o6.2.2.2.2 (iI a0 o2.1 o2.2.1 x0 [(50,(Bo (!o6.1)))])) Z $ kcl Z Z (fun hc=>?_) fun hc=>?_
     ·rw [hc]
      refine kr ⟨[(2,(Pt 2)),(3,(I 3))],[(2,⟨false,4,[(j5 ({ fName:=[],fKind:=0,fTypes:=([]:List a7),fIndexes:=([]:List a8) }:a6))]⟩)],67⟩ rfl $ et l5 $ et w6 $ et x9 $ et (hret _) ?_
      rfl
     ·rw [hc]
      exact et w9 $ et j8 $ kl (V3 o6.2.1 o6.2.2.1 o6.2.2.2.1 o6.2.2.2.2 (iI a0 o2.1 o2.2.1 (sqW (x0+1)) [])) Z $ et j7 $ ih (sqW (x0+1)) o6.2.1 o6.2.2.1 o6.2.2.2.1 o6.2.2.2.2
  ·rw [hc]
   exact et C7 $ et s6 $ hK1 x0 x1 x2 x3 x4
theorem eE (k:Nat) (a0:Str):EV k 6 [(Sr a0)]=(cg k a0).map aW:=by
 cases k with
 | zero=>rfl
 | succ k=>
  unfold cg
  refine et (l8 (c:=f6c) (N:=67) (regs:=f6n) Z func6 Z (by decide) Z Z Z) $ kr ⟨[(0,(Sr a0)),(2,(Pt 2))],[(2,⟨false,4,[(V.agg [(Sr []),(I 0),(V.sl 2 8 (List.map d9 ([]:List a7))),(V.sl 2 4 (List.map d7 ([]:List a8)))])]⟩)],67⟩ rfl $ kr ⟨(iH a0 []),[(2,⟨false,4,[(V.agg [(Sr []),(I 0),(V.sl 2 8 (List.map d9 ([]:List a7))),(V.sl 2 4 (List.map d7 ([]:List a8)))])]⟩),(4,⟨false,4,[(V.agg [(Sr []),(I 0),(V.sl 3 8 (List.map b5 ([]:List a7))),(V.sl 1 4 (List.map d7 ([]:List a8)))])]⟩)],67⟩ rfl $ et d8 $ kga GE Z (fun (o2:(List Str)×Int×Int)=>[(12,(sS o2.1)),(13,(I o2.2.1)),(14,(I o2.2.2))]) (rd 1 [(11,(Sr a0))] Z Z $ rp Z (j9 Z Z Z Z Z (fP k a0 ([10]:Str)) (.inl Z)) fun v1=>bd 2 [(12,(sS v1))] Z Z $ rl Z (w7 (e:=V.str) Z Z Z Z Z Z underlying41) $ b6 Z) fun o2=>et (l6 Z) $ et B3 ?_
  refine mE k a0 o2 _ _ _ ?h_dbd_Parse_L1_0 ?h_dbd_Parse_L1_1 ?hr_dbd_Parse_L1 k o2.2.2 [] 0 ([]:List a7) ([]:List a8)
  ·intro y0 y1 y2 y3 y4 y5 y6
   refine et s5 $ et d8 $ kg zd Z (fun (o0:Str×Int)=>⟨(iH a0 [(9,(Sr o0.1)),(10,(I o0.2))]),[(2,⟨false,4,[(V.agg [(Sr []),(I 0),(V.sl 2 8 (List.map d9 ([]:List a7))),(V.sl 2 4 (List.map d7 ([]:List a8)))])]⟩),(4,⟨false,4,[(V.agg [(Sr y3),(I y4),(d4 y5),(i8 y6)])]⟩)],67⟩) (et (ar (x:=some ()) (st1:=⟨(tA a0 y0 y1 o2.1 o2.2.1 y2 [(20,(Bo true))]),[(2,⟨false,4,[(V.agg [(Sr []),(I 0),(V.sl 2 8 (List.map d9 ([]:List a7))),(V.sl 2 4 (List.map d7 ([]:List a8)))])]⟩),(4,⟨false,4,[(V.agg [(Sr y3),(I y4),(d4 y5),(V.sl 1 4 (List.map d7 y6))])]⟩)],67⟩) (w:=fun _=>((V.agg [(Sr y3),(I y4),(d4 y5),(V.sl 1 4 (List.map d7 y6))]),⟨(tA a0 y0 y1 o2.1 o2.2.1 y2 [(20,(Bo true))]),[(2,⟨false,4,[(V.agg [(Sr []),(I 0),(V.sl 2 8 (List.map d9 ([]:List a7))),(V.sl 2 4 (List.map d7 ([]:List a8)))])]⟩),(4,⟨false,4,[(V.agg [(Sr y3),(I y4),(d4 y5),(i8 y6)])]⟩)],67⟩)) (u:=fun _=>⟨(tA a0 y0 y1 o2.1 o2.2.1 y2 [(20,(Bo true)),(54,(V.agg [(Sr y3),(I y4),(d4 y5),(i8 y6)]))]),[(2,⟨false,4,[(V.agg [(Sr []),(I 0),(V.sl 2 8 (List.map d9 ([]:List a7))),(V.sl 2 4 (List.map d7 ([]:List a8)))])]⟩),(4,⟨false,4,[(V.agg [(Sr y3),(I y4),(d4 y5),(i8 y6)])]⟩)],67⟩) Z Z Z Z Z Z (gh3 (wd (e:=b5) (e':=d9) (fun _=>rfl) Z Z Z)) Z (fun _=>rfl)) $ et A6 $ rp Z (j9 Z Z Z Z Z (Q9 k ({ fName:=y3,fKind:=y4,fTypes:=y5,fIndexes:=y6 }:a6)) (.inl Z)) fun v0=>b6 Z) fun o0=>et d8 $ kg ze Z (fun (o1:Bool)=>⟨[(2,(Pt 2)),(4,(Pt 4)),(64,(Bo o1))],[(2,⟨false,4,[(V.agg [(Sr []),(I 0),(V.sl 2 8 (List.map d9 ([]:List a7))),(V.sl 2 4 (List.map d7 ([]:List a8)))])]⟩),(4,⟨false,4,[(V.agg [(Sr y3),(I y4),(d4 y5),(i8 y6)])]⟩)],67⟩) ?_ fun o1=>?_
   ·refine rd 3 [(58,(I o0.2)),(59,(Bo (o0.2 != 0))),(60,(Bo (o0.2 != 0)))] Z Z $ u1 (fun hc=>?_) fun hc=>?_
    ·rw [hc]
     exact i7 Z
    ·rw [hc]
     exact i7 Z
   refine kc Z Z (fun hc=>?_) fun hc=>?_
   ·rw [hc]
    refine et d8 $ kr ⟨[(2,(Pt 2)),(3,(I 3))],[(2,⟨false,4,[(j5 ({ fName:=[],fKind:=0,fTypes:=([]:List a7),fIndexes:=([]:List a8) }:a6))]⟩)],67⟩ rfl $ et L6 ?_
    rfl
   ·rw [hc]
    refine et l7 $ kr ⟨[(2,(Pt 2)),(3,(I 0))],[(2,⟨false,4,[(j5 ({ fName:=y3,fKind:=y4,fTypes:=y5,fIndexes:=y6 }:a6))]⟩)],67⟩ rfl $ et l5 ?_
    rfl
  ·intro y7 y8 y9 ya yb
   refine et s5 $ et d8 $ kg zd Z (fun (o3:Str×Int)=>⟨(iH a0 [(9,(Sr o3.1)),(10,(I o3.2))]),[(2,⟨false,4,[(V.agg [(Sr []),(I 0),(V.sl 2 8 (List.map d9 ([]:List a7))),(V.sl 2 4 (List.map d7 ([]:List a8)))])]⟩),(4,⟨false,4,[(V.agg [(Sr y8),(I y9),(d4 ya),(i8 yb)])]⟩)],67⟩) (et (ar (x:=some ()) (st1:=⟨(iI a0 o2.1 o2.2.1 y7 [(15,(Bo false))]),[(2,⟨false,4,[(V.agg [(Sr []),(I 0),(V.sl 2 8 (List.map d9 ([]:List a7))),(V.sl 2 4 (List.map d7 ([]:List a8)))])]⟩),(4,⟨false,4,[(V.agg [(Sr y8),(I y9),(d4 ya),(V.sl 1 4 (List.map d7 yb))])]⟩)],67⟩) (w:=fun _=>((V.agg [(Sr y8),(I y9),(d4 ya),(V.sl 1 4 (List.map d7 yb))]),⟨(iI a0 o2.1 o2.2.1 y7 [(15,(Bo false))]),[(2,⟨false,4,[(V.agg [(Sr []),(I 0),(V.sl 2 8 (List.map d9 ([]:List a7))),(V.sl 2 4 (List.map d7 ([]:List a8)))])]⟩),(4,⟨false,4,[(V.agg [(Sr y8),(I y9),(d4 ya),(i8 yb)])]⟩)],67⟩)) (u:=fun _=>⟨(iI a0 o2.1 o2.2.1 y7 [(15,(Bo false)),(54,(V.agg [(Sr y8),(I y9),(d4 ya),(i8 yb)]))]),[(2,⟨false,4,[(V.agg [(Sr []),(I 0),(V.sl 2 8 (List.map d9 ([]:List a7))),(V.sl 2 4 (List.map d7 ([]:List a8)))])]⟩),(4,⟨false,4,[(V.agg [(Sr y8),(I y9),(d4 ya),(i8 yb)])]⟩)],67⟩) Z Z Z Z Z Z (gh3 (wd (e:=b5) (e':=d9) (fun _=>rfl) Z Z Z)) Z (fun _=>rfl)) $ et A6 $ rp Z (j9 Z Z Z Z Z (Q9 k ({ fName:=y8,fKind:=y9,fTypes:=ya,fIndexes:=yb }:a6)) (.inl Z)) fun v2=>b6 Z) fun o3=>et d8 $ kg ze Z (fun (o4:Bool)=>⟨[(2,(Pt 2)),(4,(Pt 4)),(64,(Bo o4))],[(2,⟨false,4,[(V.agg [(Sr []),(I 0),(V.sl 2 8 (List.map d9 ([]:List a7))),(V.sl 2 4 (List.map d7 ([]:List a8)))])]⟩),(4,⟨false,4,[(V.agg [(Sr y8),(I y9),(d4 ya),(i8 yb)])]⟩)],67⟩) ?_ fun o4=>?_
   ·refine rd 3 [(58,(I o3.2)),(59,(Bo (o3.2 != 0))),(60,(Bo (o3.2 != 0)))] Z Z $ u1 (fun hc=>?_) fun hc=>?_
    ·rw [hc]
     exact i7 Z
    ·rw [hc]
     exact i7 Z
   refine kc Z Z (fun hc=>?_) fun hc=>?_
   ·rw [hc]
    refine et d8 $ kr ⟨[(2,(Pt 2)),(3,(I 3))],[(2,⟨false,4,[(j5 ({ fName:=[],fKind:=0,fTypes:=([]:List a7),fIndexes:=([]:List a8) }:a6))]⟩)],67⟩ rfl $ et L6 ?_
    rfl
   ·rw [hc]
    refine et l7 $ kr ⟨[(2,(Pt 2)),(3,(I 0))],[(2,⟨false,4,[(j5 ({ fName:=y8,fKind:=y9,fTypes:=ya,fIndexes:=yb }:a6))]⟩)],67⟩ rfl $ et l5 ?_
    rfl
  ·intro s; exact rfl
def M1:Bool→V×List V:=fun r=>((Bo r),[])
theorem lI (k:Nat) (a0:a6) (a1:a6) (x0:Int) (o0:a7×a7)  (K0:Int→Option Bool) (Kst:X×St→Option (V×List V)) (hK0:∀ (y0:Int),Kst (X.exit 2,(ju a0 a1 o0.1 o0.2 (gO x0 [(8,(I y0)),(117,(Bo false))])))=(K0 y0).map M1) (hret:∀ s,Kst (X.ret,s)=R6 prog 149 [(j5 a0),(j5 a1)] [] [.tmp 4] (X.ret,s)):
  ∀ (m:Nat) (x1:Int),(M9 (D0 prog (EV k) f8n k GR) m (ju a0 a1 o0.1 o0.2 (gO x0 [(8,(I x1))]))).bind Kst=(K7 o0 K0 m x1).map M1:=by
 intro m
 induction m with
 | zero=>intros; rfl
 | succ m ih=>
  intro x1
  unfold K7
  refine et A5 $ et d8 $ krp Ey Z (ju a0 a1 o0.1 o0.2 (gO x0 [(8,(I x1)),(117,(Bo (decide (x1 < (o0.1.fFields.length:Int)))))])) ?_ ?_
  ·exact rd 3 [(113,(I x1)),(114,(V.ptr 6 0 4)),(115,(c8 o0.1.fFields))] Z Z $ rl Z (w7 (e:=j3) Z Z Z Z Z Z underlying50) $ b6 Z
  refine kc Z Z (fun hc=>?_) fun hc=>?_
  ·rw [hc]
   refine et l7 $ et (l6 Z) $ kd Ez Z (fun (o1:Bool)=>(ju a0 a1 o0.1 o0.2 (gO x0 [(8,(I x1)),(130,(Bo o1))]))) (et (k0 (p:=11) (dk:=true) (t:=(gO x0 [(8,(I x1)),(117,(Bo true))])) (σ:=(ER a0 a1 o0.1 o0.2)) (n:=149) Z (by decide) (by decide) Z) $ et (l9 (m:=3) (j:=3) (t':=(gO x0 [(8,(I x1)),(117,(Bo true)),(120,(V.ptr 6 0 4)),(121,(c8 o0.1.fFields)),(122,(I x1))])) Z Z Z) $ et (b4 (x:=(idx o0.1.fFields x1)) (w:=fun v0=>(Pr (j3 v0))) Z Z Z Z Z (j6 (e:=j3) Z Z Z underlying50 Z (by decide))) $ j2 fun v0=>et (b9 (m:=4) (j:=8) (t':=(gO x0 [(8,(I x1)),(117,(Bo true)),(120,(V.ptr 6 0 4)),(121,(c8 o0.1.fFields)),(122,(I x1)),(123,(Pr (j3 v0))),(124,(j3 v0)),(125,(V.ptr 7 0 4)),(126,(c8 o0.2.fFields)),(127,(I x1))])) Z Z Z) $ et (b4 (x:=(idx o0.2.fFields x1)) (w:=fun v1=>(Pr (j3 v1))) Z Z Z Z Z (j6 (e:=j3) Z Z Z underlying50 Z (by decide))) $ j2 fun v1=>et (b9 (m:=1) (j:=10) (t':=(gO x0 [(8,(I x1)),(117,(Bo true)),(120,(V.ptr 6 0 4)),(121,(c8 o0.1.fFields)),(122,(I x1)),(123,(Pr (j3 v0))),(124,(j3 v0)),(125,(V.ptr 7 0 4)),(126,(c8 o0.2.fFields)),(127,(I x1)),(128,(Pr (j3 v1))),(129,(j3 v1))])) Z Z Z) $ et (b4 (x:=some ()) (w:=fun _=>(Bo (!(v0.fName == v1.fName && (v0.fAt == v1.fAt && (v0.fBytes == v1.fBytes && true)))))) Z Z Z Z Z (wt Z Z Z underlying54 EM Bt Z)) $ et A6 $ s7 Z) fun o1=>kcl Z Z (fun hc=>?_) fun hc=>?_
   ·rw [hc]
    refine kr (oz (Z2 [])) Z $ et l5 $ et w6 $ et x9 $ et (hret _) ?_
    rfl
   ·rw [hc]
    exact et w9 $ et j8 $ kl (ju a0 a1 o0.1 o0.2 (gO x0 [(8,(I (sqW (x1+1))))])) Z $ et j7 $ ih (sqW (x1+1))
  ·rw [hc]
   exact et C7 $ et s6 $ hK0 x1
theorem lH (k:Nat) (a0:a6) (a1:a6)  (K0:Int→Option Bool) (Kst:X×St→Option (V×List V)) (hK0:∀ (y0:Int),Kst (X.exit 0,(bN a0 a1 (W5 [(5,(I y0)),(44,(Bo false))])))=(K0 y0).map M1) (hret:∀ s,Kst (X.ret,s)=R6 prog 149 [(j5 a0),(j5 a1)] [] [.tmp 4] (X.ret,s)):
  ∀ (m:Nat) (x0:Int),(M9 (D0 prog (EV k) f8n k GS) m (bN a0 a1 (W5 [(5,(I x0))]))).bind Kst=(K6 k a0 a1 K0 m x0).map M1:=by
 intro m
 induction m with
 | zero=>intros; rfl
 | succ m ih=>
  intro x0
  unfold K6
  refine et A5 $ et d8 $ krp GO Z (bN a0 a1 (W5 [(5,(I x0)),(44,(Bo (decide (x0 < (a0.fTypes.length:Int)))))])) ?_ ?_
  ·exact rd 3 [(40,(I x0)),(41,(V.ptr 2 0 2)),(42,(d4 a0.fTypes))] Z Z $ rl Z (w7 (e:=d9) Z Z Z Z Z Z underlying23) $ b6 Z
  refine kc Z Z (fun hc=>?_) fun hc=>?_
  ·rw [hc]
   refine et l7 $ et (l6 Z) $ kd GP Z (fun (o0:a7×a7)=>(ju a0 a1 o0.1 o0.2 (gO x0 []))) (et (k0 (p:=12) (dk:=false) (t:=(W5 [(5,(I x0)),(44,(Bo true))])) (σ:=(wL a0 a1)) (n:=149) Z (by decide) (by decide) Z) $ et (l9 (m:=3) (j:=3) (t':=(W5 [(5,(I x0)),(44,(Bo true)),(47,(V.ptr 2 0 2)),(48,(d4 a0.fTypes)),(49,(I x0))])) Z Z Z) $ et (b4 (x:=(idx a0.fTypes x0)) (w:=fun v0=>(Pr (d9 v0))) Z Z Z Z Z (j6 (e:=d9) Z Z Z underlying23 Z (by decide))) $ j2 fun v0=>et (b9 (m:=4) (j:=8) (t':=(W5 [(5,(I x0)),(44,(Bo true)),(47,(V.ptr 2 0 2)),(48,(d4 a0.fTypes)),(49,(I x0)),(50,(Pr (d9 v0))),(51,(d9 v0)),(52,(V.ptr 3 0 2)),(53,(d4 a1.fTypes)),(54,(I x0))])) Z Z Z) $ et (b4 (x:=(idx a1.fTypes x0)) (w:=fun v1=>(Pr (d9 v1))) Z Z Z Z Z (j6 (e:=d9) Z Z Z underlying23 Z (by decide))) $ j2 fun v1=>s7 Z) fun o0=>et d8 $ kga GQ Z (fun (o1:Bool)=>[(112,(Bo o1))]) ?_ fun o1=>?_
   ·refine rd 6 [(57,(Pt 6)),(58,(Sr o0.1.fName)),(59,(Pt 7)),(60,(Sr o0.2.fName)),(61,(Bo (!(o0.1.fName == o0.2.fName)))),(62,(Bo (!(o0.1.fName == o0.2.fName))))] Z Z $ u1 (fun hc=>?_) fun hc=>?_
    ·rw [hc]
     exact i7 Z
    ·rw [hc]
     refine rd 13 [(63,(V.ptr 6 0 1)),(64,(I o0.1.fParent)),(65,(V.ptr 7 0 1)),(66,(I o0.2.fParent)),(67,(Bo (o0.1.fParent != o0.2.fParent))),(68,(Bo (o0.1.fParent != o0.2.fParent))),(69,(Bo (o0.1.fParent != o0.2.fParent)))] Z Z $ u1 (fun hc=>?_) fun hc=>?_
     ·rw [hc]
      exact i7 Z
     ·rw [hc]
      refine rd 20 [(70,(V.ptr 6 0 2)),(71,(I o0.1.fMin)),(72,(V.ptr 7 0 2)),(73,(I o0.2.fMin)),(74,(Bo (o0.1.fMin != o0.2.fMin))),(75,(Bo (o0.1.fMin != o0.2.fMin))),(76,(Bo (o0.1.fMin != o0.2.fMin)))] Z Z $ u1 (fun hc=>?_) fun hc=>?_
      ·rw [hc]
       exact i7 Z
      ·rw [hc]
       refine rd 27 [(77,(V.ptr 6 0 3)),(78,(I o0.1.fSize)),(79,(V.ptr 7 0 3)),(80,(I o0.2.fSize)),(81,(Bo (o0.1.fSize != o0.2.fSize))),(82,(Bo (o0.1.fSize != o0.2.fSize))),(83,(Bo (o0.1.fSize != o0.2.fSize)))] Z Z $ u1 (fun hc=>?_) fun hc=>?_
       ·rw [hc]
        exact i7 Z
       ·rw [hc]
        refine rd 34 [(84,(V.ptr 6 0 5)),(85,(I o0.1.fKey)),(86,(V.ptr 7 0 5)),(87,(I o0.2.fKey)),(88,(Bo (o0.1.fKey != o0.2.fKey))),(89,(Bo (o0.1.fKey != o0.2.fKey))),(90,(Bo (o0.1.fKey != o0.2.fKey)))] Z Z $ u1 (fun hc=>?_) fun hc=>?_
        ·rw [hc]
         exact i7 Z
        ·rw [hc]
         refine rd 41 [(91,(V.ptr 6 0 6)),(92,(Bo o0.1.fUnique)),(93,(V.ptr 7 0 6)),(94,(Bo o0.2.fUnique)),(95,(Bo (!(o0.1.fUnique == o0.2.fUnique)))),(96,(Bo (!(o0.1.fUnique == o0.2.fUnique)))),(97,(Bo (!(o0.1.fUnique == o0.2.fUnique))))] Z Z $ u1 (fun hc=>?_) fun hc=>?_
         ·rw [hc]
          exact i7 Z
         ·rw [hc]
          refine rd 48 [(98,(V.ptr 6 0 7)),(99,(Bo o0.1.fLast)),(100,(V.ptr 7 0 7)),(101,(Bo o0.2.fLast)),(102,(Bo (!(o0.1.fLast == o0.2.fLast)))),(103,(Bo (!(o0.1.fLast == o0.2.fLast)))),(104,(Bo (!(o0.1.fLast == o0.2.fLast))))] Z Z $ u1 (fun hc=>?_) fun hc=>?_
          ·rw [hc]
           exact i7 Z
          ·rw [hc]
           exact rd 50 [(105,(V.ptr 6 0 4)),(106,(c8 o0.1.fFields))] Z Z $ rl Z (w7 (e:=j3) Z Z Z Z Z Z underlying50) $ bd 53 [(107,(I (o0.1.fFields.length:Int))),(108,(V.ptr 7 0 4)),(109,(c8 o0.2.fFields))] Z Z $ rl Z (w7 (e:=j3) Z Z Z Z Z Z underlying50) $ b6 Z
   refine kc Z Z (fun hc=>?_) fun hc=>?_
   ·rw [hc]
    refine et d8 $ kr (oz (Z2 [])) Z $ et L6 $ et w6 $ et x9 $ et (hret _) ?_
    rfl
   ·rw [hc]
    refine et l7 $ kr (ju a0 a1 o0.1 o0.2 (gO x0 [(8,(I 0))])) Z $ et (Q5 Z) $ et B3 ?_
    refine lI k a0 a1 x0 o0 _ _ ?h_ref11_Same_L2_0 ?hr_ref11_Same_L2 k 0
    ·intro y1
     exact et s5 $ et w9 $ et j8 $ kl (bN a0 a1 (W5 [(5,(I (sqW (x0+1))))])) Z $ et j7 $ ih (sqW (x0+1))
    ·intro s; exact hret s
  ·rw [hc]
   exact et C7 $ et s6 $ hK0 x0
theorem lJ (k:Nat) (a0:a6) (a1:a6)  (K0:Int→Option Bool) (Kst:X×St→Option (V×List V)) (hK0:∀ (y0:Int),Kst (X.exit 4,(bN a0 a1 (W5 [(9,(I y0)),(135,(Bo false))])))=(K0 y0).map M1) (hret:∀ s,Kst (X.ret,s)=R6 prog 149 [(j5 a0),(j5 a1)] [] [.tmp 4] (X.ret,s)):
  ∀ (m:Nat) (x0:Int),(M9 (D0 prog (EV k) f8n k GT) m (bN a0 a1 (W5 [(9,(I x0))]))).bind Kst=(K8 a0 a1 K0 m x0).map M1:=by
 intro m
 induction m with
 | zero=>intros; rfl
 | succ m ih=>
  intro x0
  unfold K8
  refine et A5 $ et d8 $ krp EA Z (bN a0 a1 (W5 [(9,(I x0)),(135,(Bo (decide (x0 < (a0.fIndexes.length:Int)))))])) ?_ ?_
  ·exact rd 3 [(131,(I x0)),(132,(V.ptr 2 0 3)),(133,(i8 a0.fIndexes))] Z Z $ rl Z (w7 (e:=d7) Z Z Z Z Z Z underlying24) $ b6 Z
  refine kc Z Z (fun hc=>?_) fun hc=>?_
  ·rw [hc]
   refine et l7 $ et (l6 Z) $ kd EB Z (fun (o0:Bool)=>(bN a0 a1 (W5 [(9,(I x0)),(148,(Bo o0))]))) (et (k0 (p:=11) (dk:=true) (t:=(W5 [(9,(I x0)),(135,(Bo true))])) (σ:=(wL a0 a1)) (n:=149) Z (by decide) (by decide) Z) $ et (l9 (m:=3) (j:=3) (t':=(W5 [(9,(I x0)),(135,(Bo true)),(138,(V.ptr 2 0 3)),(139,(i8 a0.fIndexes)),(140,(I x0))])) Z Z Z) $ et (b4 (x:=(idx a0.fIndexes x0)) (w:=fun v0=>(Pr (d7 v0))) Z Z Z Z Z (j6 (e:=d7) Z Z Z underlying24 Z (by decide))) $ j2 fun v0=>et (b9 (m:=4) (j:=8) (t':=(W5 [(9,(I x0)),(135,(Bo true)),(138,(V.ptr 2 0 3)),(139,(i8 a0.fIndexes)),(140,(I x0)),(141,(Pr (d7 v0))),(142,(d7 v0)),(143,(V.ptr 3 0 3)),(144,(i8 a1.fIndexes)),(145,(I x0))])) Z Z Z) $ et (b4 (x:=(idx a1.fIndexes x0)) (w:=fun v1=>(Pr (d7 v1))) Z Z Z Z Z (j6 (e:=d7) Z Z Z underlying24 Z (by decide))) $ j2 fun v1=>et (b9 (m:=1) (j:=10) (t':=(W5 [(9,(I x0)),(135,(Bo true)),(138,(V.ptr 2 0 3)),(139,(i8 a0.fIndexes)),(140,(I x0)),(141,(Pr (d7 v0))),(142,(d7 v0)),(143,(V.ptr 3 0 3)),(144,(i8 a1.fIndexes)),(145,(I x0)),(146,(Pr (d7 v1))),(147,(d7 v1))])) Z Z Z) $ et (b4 (x:=some ()) (w:=fun _=>(Bo (!(v0.fName == v1.fName && (v0.fType == v1.fType && (v0.fField == v1.fField && (v0.fSparse == v1.fSparse && true))))))) Z Z Z Z Z (wt Z Z Z underlying56 EN Bu Z)) $ et A6 $ s7 Z) fun o0=>kcl Z Z (fun hc=>?_) fun hc=>?_
   ·rw [hc]
    refine kr (oz (Z2 [])) Z $ et l5 $ et w6 $ et x9 $ et (hret _) ?_
    rfl
   ·rw [hc]
    exact et w9 $ et j8 $ kl (bN a0 a1 (W5 [(9,(I (sqW (x0+1))))])) Z $ et j7 $ ih (sqW (x0+1))
  ·rw [hc]
   exact et C7 $ et s6 $ hK0 x0
theorem pe (k:Nat) (a0:a6) (a1:a6):EV k 8 [(j5 a0),(j5 a1)]=(cH k a0 a1).map M1:=by
 cases k with
 | zero=>rfl
 | succ k=>
  unfold cH
  refine et (l8 (c:=f8c) (N:=149) (regs:=f8n) Z func8 Z (by decide) Z Z Z) $ kr (bN a0 a1 (W5 [])) Z $ et d8 $ kga GN Z (fun (o1:Bool)=>[(39,(Bo o1))]) ?_ fun o1=>?_
  ·refine rd 6 [(10,(Pt 2)),(11,(Sr a0.fName)),(12,(Pt 3)),(13,(Sr a1.fName)),(14,(Bo (!(a0.fName == a1.fName)))),(15,(Bo (!(a0.fName == a1.fName))))] Z Z $ u1 (fun hc=>?_) fun hc=>?_
   ·rw [hc]
    exact i7 Z
   ·rw [hc]
    refine rd 13 [(16,(V.ptr 2 0 1)),(17,(I a0.fKind)),(18,(V.ptr 3 0 1)),(19,(I a1.fKind)),(20,(Bo (a0.fKind != a1.fKind))),(21,(Bo (a0.fKind != a1.fKind))),(22,(Bo (a0.fKind != a1.fKind)))] Z Z $ u1 (fun hc=>?_) fun hc=>?_
    ·rw [hc]
     exact i7 Z
    ·rw [hc]
     refine rd 15 [(23,(V.ptr 2 0 2)),(24,(d4 a0.fTypes))] Z Z $ rl Z (w7 (e:=d9) Z Z Z Z Z Z underlying23) $ bd 18 [(25,(I (a0.fTypes.length:Int))),(26,(V.ptr 3 0 2)),(27,(d4 a1.fTypes))] Z Z $ rl Z (w7 (e:=d9) Z Z Z Z Z Z underlying23) $ bd 22 (ES (a1.fTypes.length:Int) ((a0.fTypes.length:Int) != (a1.fTypes.length:Int)) []) Z Z $ u1 (fun hc=>?_) fun hc=>?_
     ·rw [hc]
      exact i7 Z
     ·rw [hc]
      exact rd 24 [(32,(V.ptr 2 0 3)),(33,(i8 a0.fIndexes))] Z Z $ rl Z (w7 (e:=d7) Z Z Z Z Z Z underlying24) $ bd 27 [(34,(I (a0.fIndexes.length:Int))),(35,(V.ptr 3 0 3)),(36,(i8 a1.fIndexes))] Z Z $ rl Z (w7 (e:=d7) Z Z Z Z Z Z underlying24) $ b6 Z
  refine kc Z Z (fun hc=>?_) fun hc=>?_
  ·rw [hc]
   refine et d8 $ kr (oz (Z2 [])) Z $ et L6 ?_
   rfl
  ·rw [hc]
   refine et l7 $ et d8 $ kr (bN a0 a1 (W5 [(5,(I 0))])) Z $ et (l6 Z) $ et B3 ?_
   refine lH k a0 a1 _ _ ?h_ref11_Same_L1_0 ?hr_ref11_Same_L1 k 0
   ·intro y0
    refine et s5 $ et d8 $ kr (bN a0 a1 (W5 [(9,(I 0))])) Z $ et (l6 Z) $ et B3 ?_
    refine lJ k a0 a1 _ _ ?h_ref11_Same_L3_0 ?hr_ref11_Same_L3 k 0
    ·intro y1
     refine et s5 $ kr (oz [(4,(Bo true))]) Z $ et l5 ?_
     rfl
    ·intro s; exact rfl
   ·intro s; exact rfl
def P5:Bool→V×List V:=fun r=>((Bo r),[])
theorem da (k:Nat) (a0:(List a8)) (a1:(List a8))  (K0:Int→Option Bool) (Kst:X×St→Option (V×List V)) (hK0:∀ (y0:Int),Kst (X.exit 0,(M6 [(0,(i8 a0)),(1,(i8 a1)),(12,(I (a0.length:Int))),(13,(I y0)),(14,(Bo false))]))=(K0 y0).map P5) (hret:∀ s,Kst (X.ret,s)=R6 prog 26 [(i8 a0),(i8 a1)] [] [.tmp 4] (X.ret,s)):
  ∀ (m:Nat) (x4:Int),(M9 (D0 prog (EV k) Fq k Dc) m (M6 [(0,(i8 a0)),(1,(i8 a1)),(12,(I (a0.length:Int))),(13,(I x4))])).bind Kst=(C4 a0 a1 K0 m x4).map P5:=by
 intro m
 induction m with
 | zero=>intros; rfl
 | succ m ih=>
  intro x4
  unfold C4
  refine et A5 $ kra [(14,(Bo (decide (x4 < (a0.length:Int)))))] Z $ kc Z Z (fun hc=>?_) fun hc=>?_
  ·rw [hc]
   refine et l7 $ et (l6 Z) $ kr (M6 [(0,(i8 a0)),(1,(i8 a1)),(5,(I x4)),(12,(I (a0.length:Int))),(13,(I x4))]) Z $ kd Db Z (fun (o7:Bool)=>(M6 [(0,(i8 a0)),(1,(i8 a1)),(12,(I (a0.length:Int))),(13,(I x4)),(24,(Bo o7))])) (et (k0 (p:=9) (dk:=true) (t:=[(0,(i8 a0)),(1,(i8 a1)),(5,(I x4)),(12,(I (a0.length:Int))),(13,(I x4))]) (σ:=[]) (n:=26) Z (by decide) (by decide) Z) $ et (l9 (m:=2) (j:=2) (t':=[(0,(i8 a0)),(1,(i8 a1)),(5,(I x4)),(12,(I (a0.length:Int))),(13,(I x4)),(16,(i8 a0)),(17,(I x4))]) Z Z Z) $ et (b4 (x:=(idx a0 x4)) (w:=fun v5=>(Pr (d7 v5))) Z Z Z Z Z (j6 (e:=d7) Z Z Z underlying24 Z (by decide))) $ j2 fun v5=>et (b9 (m:=3) (j:=6) (t':=[(0,(i8 a0)),(1,(i8 a1)),(5,(I x4)),(12,(I (a0.length:Int))),(13,(I x4)),(16,(i8 a0)),(17,(I x4)),(18,(Pr (d7 v5))),(19,(d7 v5)),(20,(i8 a1)),(21,(I x4))]) Z Z Z) $ et (b4 (x:=(idx a1 x4)) (w:=fun v6=>(Pr (d7 v6))) Z Z Z Z Z (j6 (e:=d7) Z Z Z underlying24 Z (by decide))) $ j2 fun v6=>et (b9 (m:=1) (j:=8) (t':=[(0,(i8 a0)),(1,(i8 a1)),(5,(I x4)),(12,(I (a0.length:Int))),(13,(I x4)),(16,(i8 a0)),(17,(I x4)),(18,(Pr (d7 v5))),(19,(d7 v5)),(20,(i8 a1)),(21,(I x4)),(22,(Pr (d7 v6))),(23,(d7 v6))]) Z Z Z) $ et (b4 (x:=some ()) (w:=fun _=>(Bo (!(v5.fName == v6.fName && (v5.fType == v6.fType && (v5.fField == v6.fField && (v5.fSparse == v6.fSparse && true))))))) Z Z Z Z Z (wt Z Z Z underlying56 EN Bu Z)) $ et A6 $ s7 Z) fun o7=>kcl Z Z (fun hc=>?_) fun hc=>?_
   ·rw [hc]
    refine kr (M6 (Z2 [])) Z $ et l5 $ et w6 $ et x9 $ et (hret _) ?_
    rfl
   ·rw [hc]
    exact et w9 $ et j8 $ kl (M6 [(0,(i8 a0)),(1,(i8 a1)),(12,(I (a0.length:Int))),(13,(I (sqW (x4+1))))]) Z $ et j7 $ ih (sqW (x4+1))
  ·rw [hc]
   exact et C7 $ et s6 $ hK0 x4
theorem fg (k:Nat) (a0:(List a8)) (a1:(List a8)):EV k 37 [(i8 a0),(i8 a1)]=(J3 k a0 a1).map P5:=by
 cases k with
 | zero=>rfl
 | succ k=>
  unfold J3
  refine et (l8 (c:=f37c) (N:=26) (regs:=Fq) Z func37 Z (by decide) Z Z Z) $ kra [] Z $ et d8 $ krp CZ Z (M6 [(0,(i8 a0)),(1,(i8 a1)),(10,(Bo ((a0.length:Int) != (a1.length:Int))))]) ?_ ?_
  ·exact rd 1 [(6,(i8 a0))] Z Z $ rl Z (w7 (e:=d7) Z Z Z Z Z Z underlying24) $ bd 3 [(7,(I (a0.length:Int))),(8,(i8 a1))] Z Z $ rl Z (w7 (e:=d7) Z Z Z Z Z Z underlying24) $ b6 Z
  refine kc Z Z (fun hc=>?_) fun hc=>?_
  ·rw [hc]
   refine et d8 $ kr (M6 (Z2 [])) Z $ et L6 ?_
   rfl
  ·rw [hc]
   refine et l7 $ et d8 $ krp Da Z (M6 [(0,(i8 a0)),(1,(i8 a1)),(12,(I (a0.length:Int))),(13,(I 0))]) ?_ ?_
   ·exact rd 1 [(11,(i8 a0))] Z Z $ rl Z (w7 (e:=d7) Z Z Z Z Z Z underlying24) $ b6 Z
   refine et (l6 Z) $ et B3 ?_
   refine da k a0 a1 _ _ ?h_slices_Equal_Search_L1_0 ?hr_slices_Equal_Search_L1 k 0
   ·intro y8
    refine et s5 $ kr (M6 [(4,(Bo true))]) Z $ et l5 ?_
    rfl
   ·intro s; exact rfl
def I6:Bool→V×List V:=fun r=>((Bo r),[])
theorem aC (k:Nat) (a0:(List a7)) (a1:(List a7)) (a2:Nat→a7→a7→Option Bool) (a2_fid:Go.FuncId)  (a2_hok:∀ j x0 x1,EV j a2_fid [(d9 x0),(d9 x1)]=(a2 j x0 x1).map fun b=>((Bo b),[])) (K0:Int→Option Bool) (Kst:X×St→Option (V×List V)) (hK0:∀ (y0:Int),Kst (X.exit 0,(fj [(1,(d4 a1)),(2,(V.fn a2_fid [] [])),(15,(d4 a0)),(16,(I (a0.length:Int))),(17,(I y0)),(18,(Bo false))]))=(K0 y0).map I6) (hret:∀ s,Kst (X.ret,s)=R6 prog 32 [(d4 a0),(d4 a1),(V.fn a2_fid [] [])] [] [.tmp 6] (X.ret,s)):
  ∀ (m:Nat) (x7:Int),(M9 (D0 prog (EV k) qJ k sx) m (fj [(1,(d4 a1)),(2,(V.fn a2_fid [] [])),(15,(d4 a0)),(16,(I (a0.length:Int))),(17,(I x7))])).bind Kst=(z8 k a0 a1 a2 K0 m x7).map I6:=by
 intro m
 induction m with
 | zero=>intros; rfl
 | succ m ih=>
  intro x7
  unfold z8
  refine et A5 $ kra [(18,(Bo (decide (x7 < (a0.length:Int)))))] Z $ kc Z Z (fun hc=>?_) fun hc=>?_
  ·rw [hc]
   refine et l7 $ et (l6 Z) $ kg so Z (fun (o9:Int×a7)=>⟨[(1,(d4 a1)),(2,(V.fn a2_fid [] [])),(7,(I o9.1)),(8,(Pt 8)),(15,(d4 a0)),(16,(I (a0.length:Int))),(17,(I x7))],[(8,vS 8 (d9 o9.2))],32⟩) (rd 1 [(19,(I x7))] Z Z $ rp Z (j6 (e:=d9) Z Z Z underlying23 Z (by decide)) fun v8=>b6 Z) fun o9=>kg sq Z (fun (o0:a7)=>⟨[(1,(d4 a1)),(2,(V.fn a2_fid [] [])),(8,(Pt 8)),(9,(Pt 9)),(15,(d4 a0)),(16,(I (a0.length:Int))),(17,(I x7))],[(8,vS 8 (d9 o9.2)),(9,vS 8 (d9 o0))],32⟩) (rd 2 [(22,(d4 a1)),(23,(I o9.1))] Z Z $ rs Z (j6 (e:=d9) Z Z Z underlying23 Z (by decide)) fun v0=>b6 Z) fun o0=>kg sr Z (fun (o1:Bool)=>(fj [(1,(d4 a1)),(2,(V.fn a2_fid [] [])),(15,(d4 a0)),(16,(I (a0.length:Int))),(17,(I x7)),(30,(Bo o1))])) (rd 3 [(26,(V.fn a2_fid [] [])),(27,(d9 o9.2)),(28,(d9 o0))] Z Z $ rp Z (j9 Z Z Z Z Z (a2_hok k o9.2 o0) (.inl Z)) fun v1=>b6 Z) fun o1=>kcl Z Z (fun hc=>?_) fun hc=>?_
   ·rw [hc]
    refine kr (fj [(6,(Bo false))]) Z $ et l5 $ et w6 $ et x9 $ et (hret _) ?_
    rfl
   ·rw [hc]
    exact et w9 $ et j8 $ kl (fj [(1,(d4 a1)),(2,(V.fn a2_fid [] [])),(15,(d4 a0)),(16,(I (a0.length:Int))),(17,(I (sqW (x7+1))))]) Z $ et j7 $ ih (sqW (x7+1))
  ·rw [hc]
   exact et C7 $ et s6 $ hK0 x7
theorem bL (k:Nat) (a0:(List a7)) (a1:(List a7)) (a2:Nat→a7→a7→Option Bool) (a2_fid:Go.FuncId)  (a2_hok:∀ j x0 x1,EV j a2_fid [(d9 x0),(d9 x1)]=(a2 j x0 x1).map fun b=>((Bo b),[])):EV k 38 [(d4 a0),(d4 a1),(V.fn a2_fid [] [])]=(E8 k a0 a1 a2).map I6:=by
 cases k with
 | zero=>rfl
 | succ k=>
  unfold E8
  refine et (l8 (c:=AF) (N:=32) (regs:=qJ) Z func38 Z (by decide) Z Z Z) $ kra [] Z $ et d8 $ krp sm Z (fj [(0,(d4 a0)),(1,(d4 a1)),(2,(V.fn a2_fid [] [])),(14,(Bo ((a0.length:Int) != (a1.length:Int))))]) ?_ ?_
  ·exact rd 1 [(10,(d4 a0))] Z Z $ rl Z (w7 (e:=d9) Z Z Z Z Z Z underlying23) $ bd 3 [(11,(I (a0.length:Int))),(12,(d4 a1))] Z Z $ rl Z (w7 (e:=d9) Z Z Z Z Z Z underlying23) $ b6 Z
  refine kc Z Z (fun hc=>?_) fun hc=>?_
  ·rw [hc]
   refine et d8 $ kr (fj [(6,(Bo false))]) Z $ et L6 ?_
   rfl
  ·rw [hc]
   refine et l7 $ et d8 $ krp sn Z (fj [(1,(d4 a1)),(2,(V.fn a2_fid [] [])),(15,(d4 a0)),(16,(I (a0.length:Int))),(17,(I 0))]) ?_ ?_
   ·exact rd 1 [(15,(d4 a0))] Z Z $ rl Z (w7 (e:=d9) Z Z Z Z Z Z underlying23) $ b6 Z
   refine et (l6 Z) $ et B3 ?_
   refine aC k a0 a1 a2 a2_fid a2_hok _ _ ?h_slices_EqualFunc_Type_v20_L1_0 ?hr_slices_EqualFunc_Type_v20_L1 k 0
   ·intro y0
    refine et s5 $ kr (fj [(6,(Bo true))]) Z $ et l5 ?_
    rfl
   ·intro s; exact rfl
def Q3:Bool→V×List V:=fun r=>((Bo r),[])
theorem dH (k:Nat) (a0:(List b8)) (a1:(List b8))  (K0:Int→Option Bool) (Kst:X×St→Option (V×List V)) (hK0:∀ (y0:Int),Kst (X.exit 0,(M6 [(0,(c8 a0)),(1,(c8 a1)),(12,(I (a0.length:Int))),(13,(I y0)),(14,(Bo false))]))=(K0 y0).map Q3) (hret:∀ s,Kst (X.ret,s)=R6 prog 26 [(c8 a0),(c8 a1)] [] [.tmp 4] (X.ret,s)):
  ∀ (m:Nat) (x4:Int),(M9 (D0 prog (EV k) Fr k Dh) m (M6 [(0,(c8 a0)),(1,(c8 a1)),(12,(I (a0.length:Int))),(13,(I x4))])).bind Kst=(D3 a0 a1 K0 m x4).map Q3:=by
 intro m
 induction m with
 | zero=>intros; rfl
 | succ m ih=>
  intro x4
  unfold D3
  refine et A5 $ kra [(14,(Bo (decide (x4 < (a0.length:Int)))))] Z $ kc Z Z (fun hc=>?_) fun hc=>?_
  ·rw [hc]
   refine et l7 $ et (l6 Z) $ kr (M6 [(0,(c8 a0)),(1,(c8 a1)),(5,(I x4)),(12,(I (a0.length:Int))),(13,(I x4))]) Z $ kd Dg Z (fun (o7:Bool)=>(M6 [(0,(c8 a0)),(1,(c8 a1)),(12,(I (a0.length:Int))),(13,(I x4)),(24,(Bo o7))])) (et (k0 (p:=9) (dk:=true) (t:=[(0,(c8 a0)),(1,(c8 a1)),(5,(I x4)),(12,(I (a0.length:Int))),(13,(I x4))]) (σ:=[]) (n:=26) Z (by decide) (by decide) Z) $ et (l9 (m:=2) (j:=2) (t':=[(0,(c8 a0)),(1,(c8 a1)),(5,(I x4)),(12,(I (a0.length:Int))),(13,(I x4)),(16,(c8 a0)),(17,(I x4))]) Z Z Z) $ et (b4 (x:=(idx a0 x4)) (w:=fun v5=>(Pr (j3 v5))) Z Z Z Z Z (j6 (e:=j3) Z Z Z underlying50 Z (by decide))) $ j2 fun v5=>et (b9 (m:=3) (j:=6) (t':=[(0,(c8 a0)),(1,(c8 a1)),(5,(I x4)),(12,(I (a0.length:Int))),(13,(I x4)),(16,(c8 a0)),(17,(I x4)),(18,(Pr (j3 v5))),(19,(j3 v5)),(20,(c8 a1)),(21,(I x4))]) Z Z Z) $ et (b4 (x:=(idx a1 x4)) (w:=fun v6=>(Pr (j3 v6))) Z Z Z Z Z (j6 (e:=j3) Z Z Z underlying50 Z (by decide))) $ j2 fun v6=>et (b9 (m:=1) (j:=8) (t':=[(0,(c8 a0)),(1,(c8 a1)),(5,(I x4)),(12,(I (a0.length:Int))),(13,(I x4)),(16,(c8 a0)),(17,(I x4)),(18,(Pr (j3 v5))),(19,(j3 v5)),(20,(c8 a1)),(21,(I x4)),(22,(Pr (j3 v6))),(23,(j3 v6))]) Z Z Z) $ et (b4 (x:=some ()) (w:=fun _=>(Bo (!(v5.fName == v6.fName && (v5.fAt == v6.fAt && (v5.fBytes == v6.fBytes && true)))))) Z Z Z Z Z (wt Z Z Z underlying54 EM Bt Z)) $ et A6 $ s7 Z) fun o7=>kcl Z Z (fun hc=>?_) fun hc=>?_
   ·rw [hc]
    refine kr (M6 (Z2 [])) Z $ et l5 $ et w6 $ et x9 $ et (hret _) ?_
    rfl
   ·rw [hc]
    exact et w9 $ et j8 $ kl (M6 [(0,(c8 a0)),(1,(c8 a1)),(12,(I (a0.length:Int))),(13,(I (sqW (x4+1))))]) Z $ et j7 $ ih (sqW (x4+1))
  ·rw [hc]
   exact et C7 $ et s6 $ hK0 x4
theorem fM (k:Nat) (a0:(List b8)) (a1:(List b8)):EV k 40 [(c8 a0),(c8 a1)]=(M3 k a0 a1).map Q3:=by
 cases k with
 | zero=>rfl
 | succ k=>
  unfold M3
  refine et (l8 (c:=f40c) (N:=26) (regs:=Fr) Z func40 Z (by decide) Z Z Z) $ kra [] Z $ et d8 $ krp De Z (M6 [(0,(c8 a0)),(1,(c8 a1)),(10,(Bo ((a0.length:Int) != (a1.length:Int))))]) ?_ ?_
  ·exact rd 1 [(6,(c8 a0))] Z Z $ rl Z (w7 (e:=j3) Z Z Z Z Z Z underlying50) $ bd 3 [(7,(I (a0.length:Int))),(8,(c8 a1))] Z Z $ rl Z (w7 (e:=j3) Z Z Z Z Z Z underlying50) $ b6 Z
  refine kc Z Z (fun hc=>?_) fun hc=>?_
  ·rw [hc]
   refine et d8 $ kr (M6 (Z2 [])) Z $ et L6 ?_
   rfl
  ·rw [hc]
   refine et l7 $ et d8 $ krp Df Z (M6 [(0,(c8 a0)),(1,(c8 a1)),(12,(I (a0.length:Int))),(13,(I 0))]) ?_ ?_
   ·exact rd 1 [(11,(c8 a0))] Z Z $ rl Z (w7 (e:=j3) Z Z Z Z Z Z underlying50) $ b6 Z
   refine et (l6 Z) $ et B3 ?_
   refine dH k a0 a1 _ _ ?h_slices_Equal_Field_L1_0 ?hr_slices_Equal_Field_L1 k 0
   ·intro y8
    refine et s5 $ kr (M6 [(4,(Bo true))]) Z $ et l5 ?_
    rfl
   ·intro s; exact rfl
def nr:Bool→V×List V:=fun r=>((Bo r),[])
theorem oO (k:Nat) (a0:a7) (a1:a7):EV k 39 [(d9 a0),(d9 a1)]=(X1 k a0 a1).map nr:=by
 cases k with
 | zero=>rfl
 | succ k=>
  unfold X1
  refine et (l8 (c:=f39c) (N:=59) (regs:=Gh) Z func39 Z (by decide) Z Z Z) $ kr ⟨(W5 []),[(2,vS 8 (d9 a0)),(3,vS 8 (d9 a1))],59⟩ rfl $ kg Dd Z (fun (o2:Bool)=>⟨[(4,(Bo o2))],[],59⟩) ?_ fun o2=>?_
  ·refine rd 6 [(5,(Pt 2)),(6,(Sr a0.fName)),(7,(Pt 3)),(8,(Sr a1.fName)),(9,(Bo (a0.fName == a1.fName))),(10,(Bo (a0.fName == a1.fName)))] Z Z $ u1 (fun hc=>?_) fun hc=>?_
   ·rw [hc]
    refine rd 13 (EU a0.fParent a1.fParent (a0.fParent == a1.fParent) []) Z Z $ u1 (fun hc=>?_) fun hc=>?_
    ·rw [hc]
     refine rd 20 [(18,(V.ptr 2 0 2)),(19,(I a0.fMin)),(20,(V.ptr 3 0 2)),(21,(I a1.fMin)),(22,(Bo (a0.fMin == a1.fMin))),(23,(Bo (a0.fMin == a1.fMin))),(24,(Bo (a0.fMin == a1.fMin)))] Z Z $ u1 (fun hc=>?_) fun hc=>?_
     ·rw [hc]
      refine rd 27 [(25,(V.ptr 2 0 3)),(26,(I a0.fSize)),(27,(V.ptr 3 0 3)),(28,(I a1.fSize)),(29,(Bo (a0.fSize == a1.fSize))),(30,(Bo (a0.fSize == a1.fSize))),(31,(Bo (a0.fSize == a1.fSize)))] Z Z $ u1 (fun hc=>?_) fun hc=>?_
      ·rw [hc]
       refine rd 34 [(32,(V.ptr 2 0 5)),(33,(I a0.fKey)),(34,(V.ptr 3 0 5)),(35,(I a1.fKey)),(36,(Bo (a0.fKey == a1.fKey))),(37,(Bo (a0.fKey == a1.fKey))),(38,(Bo (a0.fKey == a1.fKey)))] Z Z $ u1 (fun hc=>?_) fun hc=>?_
       ·rw [hc]
        refine rd 41 [(39,(V.ptr 2 0 6)),(40,(Bo a0.fUnique)),(41,(V.ptr 3 0 6)),(42,(Bo a1.fUnique)),(43,(Bo (a0.fUnique == a1.fUnique))),(44,(Bo (a0.fUnique == a1.fUnique))),(45,(Bo (a0.fUnique == a1.fUnique)))] Z Z $ u1 (fun hc=>?_) fun hc=>?_
        ·rw [hc]
         refine rd 48 [(46,(V.ptr 2 0 7)),(47,(Bo a0.fLast)),(48,(V.ptr 3 0 7)),(49,(Bo a1.fLast)),(50,(Bo (a0.fLast == a1.fLast))),(51,(Bo (a0.fLast == a1.fLast))),(52,(Bo (a0.fLast == a1.fLast)))] Z Z $ u1 (fun hc=>?_) fun hc=>?_
         ·rw [hc]
          exact rd 52 [(53,(V.ptr 2 0 4)),(54,(c8 a0.fFields)),(55,(V.ptr 3 0 4)),(56,(c8 a1.fFields))] Z Z $ rs Z (j9 Z Z Z Z Z (fM k a0.fFields a1.fFields) (.inl Z)) fun v1=>b6 Z
         ·rw [hc]
          exact i7 Z
        ·rw [hc]
         exact i7 Z
       ·rw [hc]
        exact i7 Z
      ·rw [hc]
       exact i7 Z
     ·rw [hc]
      exact i7 Z
    ·rw [hc]
     exact i7 Z
   ·rw [hc]
    exact i7 Z
  refine et l5 ?_
  rfl
def qr:Bool→V×List V:=fun r=>((Bo r),[])
theorem rU (k:Nat) (a0:a6) (a1:a6):EV k 16 [(j5 a0),(j5 a1)]=(ga k a0 a1).map qr:=by
 cases k with
 | zero=>rfl
 | succ k=>
  unfold ga
  refine et (l8 (c:=f16c) (N:=31) (regs:=Gb) Z func16 Z (by decide) Z Z Z) $ kr ⟨(W5 []),(wL a0 a1),31⟩ rfl $ kg Cb Z (fun (o3:Bool)=>⟨[(4,(Bo o3))],[],31⟩) ?_ fun o3=>?_
  ·refine rd 6 [(5,(Pt 2)),(6,(Sr a0.fName)),(7,(Pt 3)),(8,(Sr a1.fName)),(9,(Bo (a0.fName == a1.fName))),(10,(Bo (a0.fName == a1.fName)))] Z Z $ u1 (fun hc=>?_) fun hc=>?_
   ·rw [hc]
    refine rd 13 (EU a0.fKind a1.fKind (a0.fKind == a1.fKind) []) Z Z $ u1 (fun hc=>?_) fun hc=>?_
    ·rw [hc]
     refine rd 17 [(18,(V.ptr 2 0 3)),(19,(i8 a0.fIndexes)),(20,(V.ptr 3 0 3)),(21,(i8 a1.fIndexes))] Z Z $ rp Z (j9 Z Z Z Z Z (fg k a0.fIndexes a1.fIndexes) (.inl Z)) fun v1=>bd 20 [(22,(Bo v1)),(23,(Bo v1)),(24,(Bo v1))] Z Z $ u1 (fun hc=>?_) fun hc=>?_
     ·rw [hc]
      exact rd 24 [(25,(V.ptr 2 0 2)),(26,(d4 a0.fTypes)),(27,(V.ptr 3 0 2)),(28,(d4 a1.fTypes))] Z Z $ rs Z (j9 Z Z Z Z Z (bL k a0.fTypes a1.fTypes (fun j x0 x1=>(X1 j x0 x1)) 39 (fun j x0 x1=>(oO j x0 x1))) (.inl Z)) fun v2=>b6 Z
     ·rw [hc]
      exact i7 Z
    ·rw [hc]
     exact i7 Z
   ·rw [hc]
    exact i7 Z
  refine et l5 ?_
  rfl
def iZ:Bool→V×List V:=fun r=>((Bo r),[])
theorem jZ (k:Nat) (a0:a6) (a1:Str):EV k 4 [(j5 a0),(Sr a1)]=(ah k a0 a1).map iZ:=by
 cases k with
 | zero=>rfl
 | succ k=>
  unfold ah
  refine et (l8 (c:=f4c) (N:=69) (regs:=f4n) Z func4 Z (by decide) Z Z Z) $ kr (rI a0 [(1,(Sr a1)),(2,(Pt 2))]) Z $ et d8 $ kga Gm Z (fun (o2:Bool)=>[(12,(Bo o2))]) (rd 1 [(10,(j5 a0))] Z Z $ rp Z (j9 Z Z Z Z Z (nW k a0) (.inl Z)) fun v1=>b6 Z) fun o2=>kc Z Z (fun hc=>?_) fun hc=>?_
  ·rw [hc]
   refine et d8 $ kg Gn Z (fun (o4:Bool)=>(rJ [(4,(Bo o4))])) (rs Z (j9 Z Z Z Z Z (cD k) (.inl Z)) fun v3=>b6 Z) fun o4=>et L6 ?_
   rfl
  ·rw [hc]
   refine et l7 $ kg Gp Z (fun (o6:Str×Int)=>(rI a0 [(1,(Sr a1)),(2,(Pt 2)),(5,(Sr o6.1)),(6,(I o6.2))])) (rd 1 [(15,(j5 a0))] Z Z $ rp Z (j9 Z Z Z Z Z (Q9 k a0) (.inl Z)) fun v5=>b6 Z) fun o6=>kga Gq Z (fun (o8:Str×Int)=>[(7,(Sr o8.1)),(8,(I o8.2))]) (rd 1 [(20,(j5 a0))] Z Z $ rp Z (j9 Z Z Z Z Z (bG k a0) (.inl Z)) fun v7=>b6 Z) fun o8=>et d8 $ kd Gr Z (fun (o0:Bool)=>(rI a0 [(2,(Pt 2)),(5,(Sr o6.1)),(6,(I o6.2)),(45,(Bo o0))])) ?_ fun o0=>?_
   ·refine et (k0 (p:=22) (dk:=true) (t:=[(1,(Sr a1)),(2,(Pt 2)),(5,(Sr o6.1)),(6,(I o6.2)),(7,(Sr o8.1)),(8,(I o8.2))]) (σ:=(tr a0)) (n:=69) Z (by decide) (by decide) Z) $ et (l9 (m:=1) (j:=1) (t':=[(1,(Sr a1)),(2,(Pt 2)),(5,(Sr o6.1)),(6,(I o6.2)),(7,(Sr o8.1)),(8,(I o8.2)),(24,(Sr a1))]) Z Z Z) $ et (b4 (x:=(L3 k a1)) (w:=fun v9=>(Bo v9)) Z Z Z Z Z (j9 Z Z Z Z Z (V8 k a1) (.inl Z))) $ j2 fun v9=>et (b9 (m:=1) (j:=3) (t':=(pY a1 o6.1 o6.2 o8.1 o8.2 v9 [])) Z Z Z) $ et (b4 (x:=(G4 k a1)) (w:=fun v0=>(Bo v0)) Z Z Z Z Z (j9 Z Z Z Z Z (Q7 k a1) (.inl Z))) $ j2 fun v0=>et (b9 (m:=2) (j:=6) (t':=(pY a1 o6.1 o6.2 o8.1 o8.2 v9 [(27,(Bo v0)),(28,(Bo (!(v9 == v0)))),(29,(Bo (!(v9 == v0))))])) Z Z Z) $ u1 (fun hc=>?_) fun hc=>?_
    ·rw [hc]
     exact s7 Z
    ·rw [hc]
     refine et (l9 (m:=1) (j:=7) (t':=(pY a1 o6.1 o6.2 o8.1 o8.2 v9 [(27,(Bo v0)),(28,(Bo false)),(29,(Bo false)),(30,(j5 a0))])) Z Z Z) $ et (b4 (x:=(Y3 k a0)) (w:=fun v2=>(Bo v2)) Z Z Z Z Z (j9 Z Z Z Z Z (eF k a0) (.inl Z))) $ j2 fun v2=>et (b9 (m:=1) (j:=9) (t':=(pY a1 o6.1 o6.2 o8.1 o8.2 v9 [(27,(Bo v0)),(28,(Bo false)),(29,(Bo false)),(30,(j5 a0)),(31,(Bo v2)),(32,(j5 a0))])) Z Z Z) $ et (b4 (x:=(T1 k a0)) (w:=fun v4=>(Bo v4)) Z Z Z Z Z (j9 Z Z Z Z Z (gL k a0) (.inl Z))) $ j2 fun v4=>et (b9 (m:=3) (j:=13) (t':=(pY a1 o6.1 o6.2 o8.1 o8.2 v9 [(27,(Bo v0)),(28,(Bo false)),(29,(Bo false)),(30,(j5 a0)),(31,(Bo v2)),(32,(j5 a0)),(33,(Bo v4)),(34,(Bo (!(v2 == v4)))),(35,(Bo (!(v2 == v4)))),(36,(Bo (!(v2 == v4))))])) Z Z Z) $ u1 (fun hc=>?_) fun hc=>?_
     ·rw [hc]
      exact s7 Z
     ·rw [hc]
      refine et (l9 (m:=5) (j:=18) (t':=(pY a1 o6.1 o6.2 o8.1 o8.2 v9 [(27,(Bo v0)),(28,(Bo false)),(29,(Bo false)),(30,(j5 a0)),(31,(Bo v2)),(32,(j5 a0)),(33,(Bo v4)),(34,(Bo false)),(35,(Bo false)),(36,(Bo false)),(37,(Sr o6.1)),(38,(Sr o8.1)),(39,(Bo (!(o6.1 == o8.1)))),(40,(Bo (!(o6.1 == o8.1)))),(41,(Bo (!(o6.1 == o8.1))))])) Z Z Z) $ u1 (fun hc=>?_) fun hc=>?_
      ·rw [hc]
       exact s7 Z
      ·rw [hc]
       exact s7 Z
   refine kc Z Z (fun hc=>?_) fun hc=>?_
   ·rw [hc]
    refine et d8 $ kr (rJ (Z2 [])) Z $ et L6 ?_
    rfl
   ·rw [hc]
    refine et l7 $ et d8 $ kr (rI a0 [(2,(Pt 2)),(5,(Sr o6.1)),(47,(Bo (o6.2 != 0)))]) Z $ kc Z Z (fun hc=>?_) fun hc=>?_
    ·rw [hc]
     refine et d8 $ kg Gs Z (fun (o1:Bool)=>(rJ [(4,(Bo o1))])) (rs Z (j9 Z Z Z Z Z (cD k) (.inl Z)) fun v6=>b6 Z) fun o1=>et L6 ?_
     rfl
    ·rw [hc]
     refine et l7 $ kg Gt Z (fun (o3:Int×a6)=>⟨[(2,(Pt 2)),(6,(I o3.1)),(9,(Pt 9))],[(2,vS 4 (j5 a0)),(9,vS 4 (j5 o3.2))],69⟩) (rd 1 [(50,(Sr o6.1))] Z Z $ rp Z (j9 Z Z Z Z Z (eE k o6.1) (.inl Z)) fun v8=>b6 Z) fun o3=>kg DJ Z (fun (o5:Bool)=>(rJ [(4,(Bo o5))])) ?_ fun o5=>?_
     ·refine rd 3 [(54,(I o3.1)),(55,(Bo (o3.1 == 0))),(56,(Bo (o3.1 == 0)))] Z Z $ u1 (fun hc=>?_) fun hc=>?_
      ·rw [hc]
       refine rd 5 [(57,(j5 a0)),(58,(j5 o3.2))] Z Z $ rp Z (j9 Z Z Z Z Z (pe k a0 o3.2) (.inl Z)) fun va=>bd 8 [(59,(Bo va)),(60,(Bo va)),(61,(Bo va))] Z Z $ u1 (fun hc=>?_) fun hc=>?_
       ·rw [hc]
        refine rd 10 [(62,(j5 a0)),(63,(j5 o3.2))] Z Z $ rp Z (j9 Z Z Z Z Z (rU k a0 o3.2) (.inl Z)) fun vb=>bd 13 [(64,(Bo vb)),(65,(Bo vb)),(66,(Bo vb))] Z Z $ u1 (fun hc=>?_) fun hc=>?_
        ·rw [hc]
         exact rs Z (j9 Z Z Z Z Z (cD k) (.inl Z)) fun vc=>b6 Z
        ·rw [hc]
         exact i7 Z
       ·rw [hc]
        exact i7 Z
      ·rw [hc]
       exact i7 Z
     refine et l5 ?_
     rfl
end
end Go.AE
