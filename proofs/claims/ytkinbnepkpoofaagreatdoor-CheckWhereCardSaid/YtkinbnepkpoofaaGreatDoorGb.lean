/- Texts joined into one: F152. -/
import Derived.Test.YtkinbnepkpoofaaGreatDoorGa
import Derived.Test.YtkinbnepkpoofaaGreatDoorJh
/- (*billhook/billhooklaw05.feed).stmt: what it comes to. -/
set_option linter.unusedVariables false
set_option maxRecDepth 100000
set_option maxHeartbeats 0
open Go Go.AM
namespace Go.Proofs.YtkinbnepkpoofaaGreatDoor
noncomputable def fi152 : Fi:=mkFi T Tryz.f152 { keep:=isIn [100019,100042],frz:=isIn [218],raw:=isIn [192],lend:=isIn [194,195,96] }
noncomputable abbrev X152 (cs:Oracle) : Px:=fi152.px T cs 1
noncomputable abbrev K152 : S.Kq (S.Hms.T [.any] × FB):=S.finZ T fi152 1 (S.endS ⟨[.any],[.c [.sl 1,.int .i64,.any,.any,.int .i64,.int .i64,.bool]]⟩)
def E152_1 (b:Int) (c:Bool) (l:List D) (t:Int) (n r:D) (e g:Int) (m:Bool) (v1_0 v1_1:Int) (v1_2 v1_3:Bool) (v1_4 v1_5:AV) (v1_6:Bool) (v1_7 v1_8 v1_9 v1_10 v1_11:AV) (v1_12:List D) (v1_13:Int) (v1_14 v1_15:D) (v1_16 v1_17 v1_18:Int) : Env :=
[AV.ptr 0 0 0,AV.im (D.int .i64 b),AV.im (D.bool c),AV.tup [],AV.tup [],AV.tup [],AV.ptr (nat_lit 1) 0 0,AV.im (D.int .i64 v1_0),AV.im (D.int .i64 v1_1),AV.ptr (nat_lit 2) 0 0,AV.tup [],AV.ptr 0 0 0,AV.im (D.int .i64 v1_0),AV.im (D.int .i64 v1_0),AV.im (D.int .i64 v1_1),AV.im (D.agg [D.int .i64 (0:Int),D.int .i64 (0:Int),D.str [],D.str [],D.sl true 0 [],D.sl true 0 [],D.sl true 0 []]),AV.ptr 0 0 0,AV.ptr 0 0 0,AV.ptr 0 0 6,AV.im (D.bool v1_2),AV.im (D.bool v1_3),v1_4,v1_5,AV.im (D.bool v1_6),v1_7,v1_7,v1_8,v1_9,v1_10,v1_7,v1_8,v1_7,v1_7,v1_8,v1_10,v1_11,AV.tup [],AV.tup [],AV.tup [],AV.tup [],AV.tup [],AV.tup [],AV.tup [],AV.tup [],AV.tup [],AV.tup [],AV.tup [],AV.tup [],AV.tup [],AV.tup [],AV.tup [],AV.tup [],AV.tup [],AV.tup [],AV.tup [],AV.tup [],AV.tup [],AV.tup [],AV.tup [],AV.tup [],AV.tup [],AV.tup [],AV.tup [],AV.tup [],AV.tup [],AV.tup [],AV.tup [],AV.tup [],AV.tup [],AV.tup [],AV.tup [],AV.tup [],AV.tup [],AV.tup [],AV.tup [],AV.tup [],AV.tup [],AV.tup [],AV.tup [],AV.tup [],AV.tup [],AV.tup [],AV.tup [],AV.tup [],AV.tup [],AV.tup [],AV.tup [],AV.tup [],AV.tup [],AV.tup [],AV.tup [],AV.tup [],AV.tup [],AV.tup [],AV.tup [],AV.tup [],AV.tup [],AV.tup [],AV.tup [],AV.tup [],AV.tup [],AV.tup [],AV.tup [],AV.tup [],AV.tup [],AV.tup [],AV.tup [],AV.tup [],AV.tup [],AV.tup [],AV.tup [],AV.tup [],AV.tup [],AV.tup [],AV.tup [],AV.tup [],AV.tup [],AV.tup [],AV.tup [],AV.tup [],AV.tup [],AV.tup [],AV.tup [],AV.tup [],AV.tup [],AV.tup [],AV.tup [],AV.tup [],AV.tup [],AV.tup [],AV.tup [],AV.tup [],AV.tup [],AV.tup [],AV.tup [],AV.tup [],AV.tup [],AV.tup [],AV.tup [],AV.tup [],AV.tup [],AV.tup [],AV.tup [],AV.tup [],AV.tup [],AV.tup [],AV.tup [],AV.tup [],AV.tup [],AV.tup [],AV.tup [],AV.tup [],AV.tup [],AV.tup [],AV.tup [],AV.tup [],AV.tup [],AV.tup [],AV.tup [],AV.tup [],AV.tup [],AV.tup [],AV.tup [],AV.tup [],AV.tup [],AV.tup [],AV.tup [],AV.tup [],AV.tup [],AV.tup [],AV.tup [],AV.tup [],AV.tup [],AV.tup [],AV.tup [],AV.tup [],AV.tup [],AV.tup [],AV.tup [],AV.tup [],AV.tup [],AV.tup [],AV.tup [],AV.tup [],AV.tup [],AV.tup [],AV.tup [],AV.tup [],AV.tup [],AV.tup [],AV.tup [],AV.tup [],AV.tup [],AV.tup [],AV.tup [],AV.tup [],AV.tup [],AV.tup [],AV.tup [],AV.tup [],AV.tup [],AV.tup [],AV.tup [],AV.tup [],AV.tup [],AV.tup [],AV.tup [],AV.tup [],AV.tup [],AV.tup [],AV.tup [],AV.tup [],AV.tup [],AV.tup [],AV.tup [],AV.tup [],AV.tup [],AV.tup [],AV.tup []]
def H152_1 (b:Int) (c:Bool) (l:List D) (t:Int) (n r:D) (e g:Int) (m:Bool) (v1_0 v1_1:Int) (v1_2 v1_3:Bool) (v1_4 v1_5:AV) (v1_6:Bool) (v1_7 v1_8 v1_9 v1_10 v1_11:AV) (v1_12:List D) (v1_13:Int) (v1_14 v1_15:D) (v1_16 v1_17 v1_18:Int) : Heap :=
[some (Blk.c 7 [D.agg [D.sl false 1 v1_12,D.int .i64 v1_13,v1_14,v1_15,D.int .i64 v1_16,D.int .i64 v1_17,D.bool v1_2]]),some (Blk.c 7 [D.agg [D.int .i64 (0:Int),D.int .i64 (0:Int),D.str [],D.str [],D.sl true 0 [],D.sl true 0 [],D.sl true 0 []]]),some (Blk.c 7 [D.agg [D.int .i64 (0:Int),D.int .i64 v1_18,D.str [],D.str [],D.sl true 0 [],D.sl true 0 [],D.sl true 0 []]])]
noncomputable def c152_1 : Code:=S.getC fi152.code [1,1,1,1,1]
noncomputable def G152_0 (cs:Oracle) (lf:Nat) (b:Int) (c:Bool) (l:List D) (t:Int) (n r:D) (e g:Int) (m:Bool)  (P:(Int) → (Int) → (Bool) → (Bool) → (AV) → (AV) → (Bool) → (AV) → (AV) → (AV) → (AV) → (AV) → (List D) → (Int) → (D) → (D) → (Int) → (Int) → (Int) → Option (S.Hms.T [.any] × FB)) : Option (S.Hms.T [.any] × FB) :=
 S.optZ (S.lentS cs (SF [S.Hm.int .i64]) 194 [AV.ptr 0 0 0] [some (Blk.c 7 [D.agg [D.sl false 1 l,D.int .i64 t,n,r,D.int .i64 e,D.int .i64 g,D.bool m]])]) fun (d1:(Int × Unit) × FX × Unit) =>
  cond d1.2.1.2.2.2.2.2.2.1
   (cond (decide (d1.1.1 ≥ (128:Int)))
    (P d1.1.1 (Int.tmod d1.1.1 (16:Int)) d1.2.1.2.2.2.2.2.2.1 (true) (AV.im (D.int .i64 d1.1.1)) (AV.im (D.bool (decide (d1.1.1 ≥ (128:Int))))) (decide (d1.1.1 ≥ (128:Int))) (AV.ptr 0 0 0) (AV.ptr 0 0 5) (AV.im (D.int .i64 d1.2.1.2.2.2.2.2.1)) (AV.im (D.int .i64 (IntKind.wrap .i64 (d1.2.1.2.2.2.2.2.1 + (1:Int))))) (AV.ptr (nat_lit 2) 0 1) d1.2.1.1 d1.2.1.2.1 d1.2.1.2.2.1 d1.2.1.2.2.2.1 d1.2.1.2.2.2.2.1 (IntKind.wrap .i64 (d1.2.1.2.2.2.2.2.1 + (1:Int))) (IntKind.wrap .i64 (d1.2.1.2.2.2.2.2.1 + (1:Int))))
    (P d1.1.1 (Int.tmod d1.1.1 (16:Int)) d1.2.1.2.2.2.2.2.2.1 (true) (AV.im (D.int .i64 d1.1.1)) (AV.im (D.bool (decide (d1.1.1 ≥ (128:Int))))) (decide (d1.1.1 ≥ (128:Int))) (AV.tup []) (AV.tup []) (AV.tup []) (AV.tup []) (AV.tup []) d1.2.1.1 d1.2.1.2.1 d1.2.1.2.2.1 d1.2.1.2.2.2.1 d1.2.1.2.2.2.2.1 d1.2.1.2.2.2.2.2.1 ((0:Int))))
   (P d1.1.1 (Int.tmod d1.1.1 (16:Int)) d1.2.1.2.2.2.2.2.2.1 (false) (AV.tup []) (AV.tup []) (false) (AV.tup []) (AV.tup []) (AV.tup []) (AV.tup []) (AV.tup []) d1.2.1.1 d1.2.1.2.1 d1.2.1.2.2.1 d1.2.1.2.2.2.1 d1.2.1.2.2.2.2.1 d1.2.1.2.2.2.2.2.1 ((0:Int)))
theorem G152_0_eq (cs:Oracle) (lf:Nat) (b:Int) (c:Bool) (l:List D) (t:Int) (n r:D) (e g:Int) (m:Bool) (cb:Code) : S.bodyS T SG cs { fi152 with code:=S.putC fi152.code [1,1,1,1,1] cb } lf [.ptr 0 0 0,.im (.int .i64 b),.im (.bool c)] [some (.c 7 [.agg [.sl false 1 l,.int .i64 t,n,r,.int .i64 e,.int .i64 g,.bool m]])] (S.endS ⟨[.any],[.c [.sl 1,.int .i64,.any,.any,.int .i64,.int .i64,.bool]]⟩) = G152_0 cs lf b c l t n r e g m  (fun v1_0 v1_1 v1_2 v1_3 v1_4 v1_5 v1_6 v1_7 v1_8 v1_9 v1_10 v1_11 v1_12 v1_13 v1_14 v1_15 v1_16 v1_17 v1_18=>S.execZQ (X152 cs) SG lf cb (E152_1 b c l t n r e g m v1_0 v1_1 v1_2 v1_3 v1_4 v1_5 v1_6 v1_7 v1_8 v1_9 v1_10 v1_11 v1_12 v1_13 v1_14 v1_15 v1_16 v1_17 v1_18) (H152_1 b c l t n r e g m v1_0 v1_1 v1_2 v1_3 v1_4 v1_5 v1_6 v1_7 v1_8 v1_9 v1_10 v1_11 v1_12 v1_13 v1_14 v1_15 v1_16 v1_17 v1_18) K152):=by
 kernel_rfl
def E152_2 (b:Int) (c:Bool) (l:List D) (t:Int) (n r:D) (e g:Int) (m:Bool) (v2_0 v2_1 v2_2:Int) (v2_3 v2_4:Bool) (v2_5 v2_6:AV) (v2_7:Bool) (v2_8 v2_9 v2_10 v2_11 v2_12:AV) (v2_13:Bool) (v2_14 v2_15 v2_16 v2_17 v2_18 v2_19 v2_20 v2_21 v2_22 v2_23 v2_24 v2_25 v2_26 v2_27:AV) (v2_28:Bool) (v2_29:List D) (v2_30:Int) (v2_31 v2_32:D) (v2_33 v2_34 v2_35:Int) : Env :=
[AV.ptr 0 0 0,AV.im (D.int .i64 b),AV.im (D.bool c),AV.tup [],AV.tup [],AV.tup [],AV.ptr 1 0 0,AV.im (D.int .i64 v2_0),AV.im (D.int .i64 v2_1),AV.ptr 2 0 0,AV.tup [],AV.ptr 0 0 0,AV.im (D.int .i64 v2_0),AV.im (D.int .i64 v2_0),AV.im (D.int .i64 v2_2),AV.im (D.agg [D.int .i64 (0:Int),D.int .i64 (0:Int),D.str [],D.str [],D.sl true 0 [],D.sl true 0 [],D.sl true 0 []]),AV.ptr 0 0 0,AV.ptr 0 0 0,AV.ptr 0 0 6,AV.im (D.bool v2_3),AV.im (D.bool v2_4),v2_5,v2_6,AV.im (D.bool v2_7),v2_8,v2_8,v2_9,v2_10,v2_11,v2_8,v2_9,v2_8,v2_8,v2_9,v2_11,v2_12,AV.im (D.int .i64 b),AV.im (D.bool (decide (b < (1:Int)))),AV.im (D.bool v2_13),v2_14,v2_15,v2_16,v2_17,v2_18,v2_19,v2_20,v2_21,v2_22,v2_23,v2_24,v2_25,v2_26,v2_27,AV.im (D.bool v2_28),AV.tup [],AV.tup [],AV.tup [],AV.tup [],AV.tup [],AV.tup [],AV.tup [],AV.tup [],AV.tup [],AV.tup [],AV.tup [],AV.tup [],AV.tup [],AV.tup [],AV.tup [],AV.tup [],AV.tup [],AV.tup [],AV.tup [],AV.tup [],AV.tup [],AV.tup [],AV.tup [],AV.tup [],AV.tup [],AV.tup [],AV.tup [],AV.tup [],AV.tup [],AV.tup [],AV.tup [],AV.tup [],AV.tup [],AV.tup [],AV.tup [],AV.tup [],AV.tup [],AV.tup [],AV.tup [],AV.tup [],AV.tup [],AV.tup [],AV.tup [],AV.tup [],AV.tup [],AV.tup [],AV.tup [],AV.tup [],AV.tup [],AV.tup [],AV.tup [],AV.tup [],AV.tup [],AV.tup [],AV.tup [],AV.tup [],AV.tup [],AV.tup [],AV.tup [],AV.tup [],AV.tup [],AV.tup [],AV.tup [],AV.tup [],AV.tup [],AV.tup [],AV.tup [],AV.tup [],AV.tup [],AV.tup [],AV.tup [],AV.tup [],AV.tup [],AV.tup [],AV.tup [],AV.tup [],AV.tup [],AV.tup [],AV.tup [],AV.tup [],AV.tup [],AV.tup [],AV.tup [],AV.tup [],AV.tup [],AV.tup [],AV.tup [],AV.tup [],AV.tup [],AV.tup [],AV.tup [],AV.tup [],AV.tup [],AV.tup [],AV.tup [],AV.tup [],AV.tup [],AV.tup [],AV.tup [],AV.tup [],AV.tup [],AV.tup [],AV.tup [],AV.tup [],AV.tup [],AV.tup [],AV.tup [],AV.tup [],AV.tup [],AV.tup [],AV.tup [],AV.tup [],AV.tup [],AV.tup [],AV.tup [],AV.tup [],AV.tup [],AV.tup [],AV.tup [],AV.tup [],AV.tup [],AV.tup [],AV.tup [],AV.tup [],AV.tup [],AV.tup [],AV.tup [],AV.tup [],AV.tup [],AV.tup [],AV.tup [],AV.tup [],AV.tup [],AV.tup [],AV.tup [],AV.tup [],AV.tup [],AV.tup [],AV.tup [],AV.tup [],AV.tup [],AV.tup [],AV.tup [],AV.tup [],AV.tup [],AV.tup [],AV.tup [],AV.tup [],AV.tup [],AV.tup [],AV.tup [],AV.tup [],AV.tup [],AV.tup [],AV.tup [],AV.tup [],AV.tup [],AV.tup [],AV.tup [],AV.tup [],AV.tup [],AV.tup [],AV.tup [],AV.tup [],AV.tup []]
def H152_2 (b:Int) (c:Bool) (l:List D) (t:Int) (n r:D) (e g:Int) (m:Bool) (v2_0 v2_1 v2_2:Int) (v2_3 v2_4:Bool) (v2_5 v2_6:AV) (v2_7:Bool) (v2_8 v2_9 v2_10 v2_11 v2_12:AV) (v2_13:Bool) (v2_14 v2_15 v2_16 v2_17 v2_18 v2_19 v2_20 v2_21 v2_22 v2_23 v2_24 v2_25 v2_26 v2_27:AV) (v2_28:Bool) (v2_29:List D) (v2_30:Int) (v2_31 v2_32:D) (v2_33 v2_34 v2_35:Int) : Heap :=
[some (Blk.c 7 [D.agg [D.sl false 1 v2_29,D.int .i64 v2_30,v2_31,v2_32,D.int .i64 v2_33,D.int .i64 v2_34,D.bool v2_3]]),some (Blk.c 7 [D.agg [D.int .i64 (0:Int),D.int .i64 (0:Int),D.str [],D.str [],D.sl true 0 [],D.sl true 0 [],D.sl true 0 []]]),some (Blk.c 7 [D.agg [D.int .i64 (0:Int),D.int .i64 v2_35,D.str [],D.str [],D.sl true 0 [],D.sl true 0 [],D.sl true 0 []]])]
noncomputable def c152_2 : Code:=S.getC c152_1 [1]
noncomputable def G152_1 (cs:Oracle) (lf:Nat) (b:Int) (c:Bool) (l:List D) (t:Int) (n r:D) (e g:Int) (m:Bool) (v1_0 v1_1:Int) (v1_2 v1_3:Bool) (v1_4 v1_5:AV) (v1_6:Bool) (v1_7 v1_8 v1_9 v1_10 v1_11:AV) (v1_12:List D) (v1_13:Int) (v1_14 v1_15:D) (v1_16 v1_17 v1_18:Int) (P:(Int) → (Int) → (Int) → (Bool) → (Bool) → (AV) → (AV) → (Bool) → (AV) → (AV) → (AV) → (AV) → (AV) → (Bool) → (AV) → (AV) → (AV) → (AV) → (AV) → (AV) → (AV) → (AV) → (AV) → (AV) → (AV) → (AV) → (AV) → (AV) → (Bool) → (List D) → (Int) → (D) → (D) → (Int) → (Int) → (Int) → Option (S.Hms.T [.any] × FB)) : Option (S.Hms.T [.any] × FB) :=
 cond (decide (b < (1:Int)))
  (cond (v1_1 == (5:Int))
   (P v1_0 ((0:Int)) v1_1 v1_2 v1_3 v1_4 v1_5 v1_6 v1_7 v1_8 v1_9 v1_10 v1_11 (true) (AV.im (D.int .i64 v1_1)) (AV.im (D.bool (v1_1 == (5:Int)))) (AV.im (D.bool true)) (AV.tup []) (AV.tup []) (AV.im (D.bool true)) (AV.im (D.bool true)) (AV.tup []) (AV.tup []) (AV.im (D.bool true)) (AV.im (D.bool true)) (AV.tup []) (AV.tup []) (AV.im (D.bool true)) (true) v1_12 v1_13 v1_14 v1_15 v1_16 v1_17 v1_18)
   (cond (v1_1 == (6:Int))
    (P v1_0 ((0:Int)) v1_1 v1_2 v1_3 v1_4 v1_5 v1_6 v1_7 v1_8 v1_9 v1_10 v1_11 (true) (AV.im (D.int .i64 v1_1)) (AV.im (D.bool (v1_1 == (5:Int)))) (AV.im (D.bool false)) (AV.im (D.int .i64 v1_1)) (AV.im (D.bool (v1_1 == (6:Int)))) (AV.im (D.bool (v1_1 == (6:Int)))) (AV.im (D.bool true)) (AV.tup []) (AV.tup []) (AV.im (D.bool true)) (AV.im (D.bool true)) (AV.tup []) (AV.tup []) (AV.im (D.bool true)) (true) v1_12 v1_13 v1_14 v1_15 v1_16 v1_17 v1_18)
    (cond (v1_1 == (7:Int))
     (P v1_0 ((0:Int)) v1_1 v1_2 v1_3 v1_4 v1_5 v1_6 v1_7 v1_8 v1_9 v1_10 v1_11 (true) (AV.im (D.int .i64 v1_1)) (AV.im (D.bool (v1_1 == (5:Int)))) (AV.im (D.bool false)) (AV.im (D.int .i64 v1_1)) (AV.im (D.bool (v1_1 == (6:Int)))) (AV.im (D.bool (v1_1 == (6:Int)))) (AV.im (D.bool false)) (AV.im (D.int .i64 v1_1)) (AV.im (D.bool (v1_1 == (7:Int)))) (AV.im (D.bool (v1_1 == (7:Int)))) (AV.im (D.bool true)) (AV.tup []) (AV.tup []) (AV.im (D.bool true)) (true) v1_12 v1_13 v1_14 v1_15 v1_16 v1_17 v1_18)
     (cond (v1_1 == (8:Int))
      (P v1_0 ((0:Int)) v1_1 v1_2 v1_3 v1_4 v1_5 v1_6 v1_7 v1_8 v1_9 v1_10 v1_11 (true) (AV.im (D.int .i64 v1_1)) (AV.im (D.bool (v1_1 == (5:Int)))) (AV.im (D.bool false)) (AV.im (D.int .i64 v1_1)) (AV.im (D.bool (v1_1 == (6:Int)))) (AV.im (D.bool (v1_1 == (6:Int)))) (AV.im (D.bool false)) (AV.im (D.int .i64 v1_1)) (AV.im (D.bool (v1_1 == (7:Int)))) (AV.im (D.bool (v1_1 == (7:Int)))) (AV.im (D.bool false)) (AV.im (D.int .i64 v1_1)) (AV.im (D.bool (v1_1 == (8:Int)))) (AV.im (D.bool (v1_1 == (8:Int)))) (v1_1 == (8:Int)) v1_12 v1_13 v1_14 v1_15 v1_16 v1_17 v1_18)
      (P v1_0 v1_1 v1_1 v1_2 v1_3 v1_4 v1_5 v1_6 v1_7 v1_8 v1_9 v1_10 v1_11 (true) (AV.im (D.int .i64 v1_1)) (AV.im (D.bool (v1_1 == (5:Int)))) (AV.im (D.bool false)) (AV.im (D.int .i64 v1_1)) (AV.im (D.bool (v1_1 == (6:Int)))) (AV.im (D.bool (v1_1 == (6:Int)))) (AV.im (D.bool false)) (AV.im (D.int .i64 v1_1)) (AV.im (D.bool (v1_1 == (7:Int)))) (AV.im (D.bool (v1_1 == (7:Int)))) (AV.im (D.bool false)) (AV.im (D.int .i64 v1_1)) (AV.im (D.bool (v1_1 == (8:Int)))) (AV.im (D.bool (v1_1 == (8:Int)))) (v1_1 == (8:Int)) v1_12 v1_13 v1_14 v1_15 v1_16 v1_17 v1_18)))))
  (P v1_0 v1_1 v1_1 v1_2 v1_3 v1_4 v1_5 v1_6 v1_7 v1_8 v1_9 v1_10 v1_11 (false) (AV.tup []) (AV.tup []) (AV.tup []) (AV.tup []) (AV.tup []) (AV.tup []) (AV.tup []) (AV.tup []) (AV.tup []) (AV.tup []) (AV.tup []) (AV.tup []) (AV.tup []) (AV.tup []) (false) v1_12 v1_13 v1_14 v1_15 v1_16 v1_17 v1_18)
theorem G152_1_eq (cs:Oracle) (lf:Nat) (b:Int) (c:Bool) (l:List D) (t:Int) (n r:D) (e g:Int) (m:Bool) (v1_0 v1_1:Int) (v1_2 v1_3:Bool) (v1_4 v1_5:AV) (v1_6:Bool) (v1_7 v1_8 v1_9 v1_10 v1_11:AV) (v1_12:List D) (v1_13:Int) (v1_14 v1_15:D) (v1_16 v1_17 v1_18:Int) (cb:Code) : S.execZQ (X152 cs) SG lf (S.putC c152_1 [1] cb) (E152_1 b c l t n r e g m v1_0 v1_1 v1_2 v1_3 v1_4 v1_5 v1_6 v1_7 v1_8 v1_9 v1_10 v1_11 v1_12 v1_13 v1_14 v1_15 v1_16 v1_17 v1_18) (H152_1 b c l t n r e g m v1_0 v1_1 v1_2 v1_3 v1_4 v1_5 v1_6 v1_7 v1_8 v1_9 v1_10 v1_11 v1_12 v1_13 v1_14 v1_15 v1_16 v1_17 v1_18) K152 = G152_1 cs lf b c l t n r e g m v1_0 v1_1 v1_2 v1_3 v1_4 v1_5 v1_6 v1_7 v1_8 v1_9 v1_10 v1_11 v1_12 v1_13 v1_14 v1_15 v1_16 v1_17 v1_18 (fun v2_0 v2_1 v2_2 v2_3 v2_4 v2_5 v2_6 v2_7 v2_8 v2_9 v2_10 v2_11 v2_12 v2_13 v2_14 v2_15 v2_16 v2_17 v2_18 v2_19 v2_20 v2_21 v2_22 v2_23 v2_24 v2_25 v2_26 v2_27 v2_28 v2_29 v2_30 v2_31 v2_32 v2_33 v2_34 v2_35=>S.execZQ (X152 cs) SG lf cb (E152_2 b c l t n r e g m v2_0 v2_1 v2_2 v2_3 v2_4 v2_5 v2_6 v2_7 v2_8 v2_9 v2_10 v2_11 v2_12 v2_13 v2_14 v2_15 v2_16 v2_17 v2_18 v2_19 v2_20 v2_21 v2_22 v2_23 v2_24 v2_25 v2_26 v2_27 v2_28 v2_29 v2_30 v2_31 v2_32 v2_33 v2_34 v2_35) (H152_2 b c l t n r e g m v2_0 v2_1 v2_2 v2_3 v2_4 v2_5 v2_6 v2_7 v2_8 v2_9 v2_10 v2_11 v2_12 v2_13 v2_14 v2_15 v2_16 v2_17 v2_18 v2_19 v2_20 v2_21 v2_22 v2_23 v2_24 v2_25 v2_26 v2_27 v2_28 v2_29 v2_30 v2_31 v2_32 v2_33 v2_34 v2_35) K152):=by
 kernel_rfl
def E152_3 (b:Int) (c:Bool) (l:List D) (t:Int) (n r:D) (e g:Int) (m:Bool) (v3_0 v3_1 v3_2:Int) (v3_3 v3_4:Bool) (v3_5 v3_6:AV) (v3_7:Bool) (v3_8 v3_9 v3_10 v3_11 v3_12:AV) (v3_13:Bool) (v3_14 v3_15 v3_16 v3_17 v3_18 v3_19 v3_20 v3_21 v3_22 v3_23 v3_24 v3_25 v3_26 v3_27:AV) (v3_28 v3_29:Bool) (v3_30 v3_31 v3_32 v3_33 v3_34 v3_35:AV) (v3_36:Bool) (v3_37:List D) (v3_38:Int) (v3_39 v3_40:D) (v3_41 v3_42 v3_43:Int) : Env :=
[AV.ptr 0 0 0,AV.im (D.int .i64 b),AV.im (D.bool c),AV.tup [],AV.tup [],AV.tup [],AV.ptr 1 0 0,AV.im (D.int .i64 v3_0),AV.im (D.int .i64 v3_1),AV.ptr 2 0 0,AV.tup [],AV.ptr 0 0 0,AV.im (D.int .i64 v3_0),AV.im (D.int .i64 v3_0),AV.im (D.int .i64 v3_2),AV.im (D.agg [D.int .i64 (0:Int),D.int .i64 (0:Int),D.str [],D.str [],D.sl true 0 [],D.sl true 0 [],D.sl true 0 []]),AV.ptr 0 0 0,AV.ptr 0 0 0,AV.ptr 0 0 6,AV.im (D.bool v3_3),AV.im (D.bool v3_4),v3_5,v3_6,AV.im (D.bool v3_7),v3_8,v3_8,v3_9,v3_10,v3_11,v3_8,v3_9,v3_8,v3_8,v3_9,v3_11,v3_12,AV.im (D.int .i64 b),AV.im (D.bool (decide (b < (1:Int)))),AV.im (D.bool v3_13),v3_14,v3_15,v3_16,v3_17,v3_18,v3_19,v3_20,v3_21,v3_22,v3_23,v3_24,v3_25,v3_26,v3_27,AV.im (D.bool v3_28),AV.im (D.bool c),AV.im (D.bool !c),AV.im (D.bool v3_29),v3_30,v3_31,v3_32,v3_33,v3_34,v3_35,AV.im (D.bool v3_36),AV.tup [],AV.tup [],AV.tup [],AV.tup [],AV.tup [],AV.tup [],AV.tup [],AV.tup [],AV.tup [],AV.tup [],AV.tup [],AV.tup [],AV.tup [],AV.tup [],AV.tup [],AV.tup [],AV.tup [],AV.tup [],AV.tup [],AV.tup [],AV.tup [],AV.tup [],AV.tup [],AV.tup [],AV.tup [],AV.tup [],AV.tup [],AV.tup [],AV.tup [],AV.tup [],AV.tup [],AV.tup [],AV.tup [],AV.tup [],AV.tup [],AV.tup [],AV.tup [],AV.tup [],AV.tup [],AV.tup [],AV.tup [],AV.tup [],AV.tup [],AV.tup [],AV.tup [],AV.tup [],AV.tup [],AV.tup [],AV.tup [],AV.tup [],AV.tup [],AV.tup [],AV.tup [],AV.tup [],AV.tup [],AV.tup [],AV.tup [],AV.tup [],AV.tup [],AV.tup [],AV.tup [],AV.tup [],AV.tup [],AV.tup [],AV.tup [],AV.tup [],AV.tup [],AV.tup [],AV.tup [],AV.tup [],AV.tup [],AV.tup [],AV.tup [],AV.tup [],AV.tup [],AV.tup [],AV.tup [],AV.tup [],AV.tup [],AV.tup [],AV.tup [],AV.tup [],AV.tup [],AV.tup [],AV.tup [],AV.tup [],AV.tup [],AV.tup [],AV.tup [],AV.tup [],AV.tup [],AV.tup [],AV.tup [],AV.tup [],AV.tup [],AV.tup [],AV.tup [],AV.tup [],AV.tup [],AV.tup [],AV.tup [],AV.tup [],AV.tup [],AV.tup [],AV.tup [],AV.tup [],AV.tup [],AV.tup [],AV.tup [],AV.tup [],AV.tup [],AV.tup [],AV.tup [],AV.tup [],AV.tup [],AV.tup [],AV.tup [],AV.tup [],AV.tup [],AV.tup [],AV.tup [],AV.tup [],AV.tup [],AV.tup [],AV.tup [],AV.tup [],AV.tup [],AV.tup [],AV.tup [],AV.tup [],AV.tup [],AV.tup [],AV.tup [],AV.tup [],AV.tup [],AV.tup [],AV.tup [],AV.tup [],AV.tup [],AV.tup [],AV.tup [],AV.tup [],AV.tup [],AV.tup [],AV.tup [],AV.tup [],AV.tup [],AV.tup [],AV.tup [],AV.tup [],AV.tup [],AV.tup [],AV.tup [],AV.tup [],AV.tup []]
def H152_3 (b:Int) (c:Bool) (l:List D) (t:Int) (n r:D) (e g:Int) (m:Bool) (v3_0 v3_1 v3_2:Int) (v3_3 v3_4:Bool) (v3_5 v3_6:AV) (v3_7:Bool) (v3_8 v3_9 v3_10 v3_11 v3_12:AV) (v3_13:Bool) (v3_14 v3_15 v3_16 v3_17 v3_18 v3_19 v3_20 v3_21 v3_22 v3_23 v3_24 v3_25 v3_26 v3_27:AV) (v3_28 v3_29:Bool) (v3_30 v3_31 v3_32 v3_33 v3_34 v3_35:AV) (v3_36:Bool) (v3_37:List D) (v3_38:Int) (v3_39 v3_40:D) (v3_41 v3_42 v3_43:Int) : Heap :=
[some (Blk.c 7 [D.agg [D.sl false 1 v3_37,D.int .i64 v3_38,v3_39,v3_40,D.int .i64 v3_41,D.int .i64 v3_42,D.bool v3_3]]),some (Blk.c 7 [D.agg [D.int .i64 (0:Int),D.int .i64 (0:Int),D.str [],D.str [],D.sl true 0 [],D.sl true 0 [],D.sl true 0 []]]),some (Blk.c 7 [D.agg [D.int .i64 (0:Int),D.int .i64 v3_43,D.str [],D.str [],D.sl true 0 [],D.sl true 0 [],D.sl true 0 []]])]
noncomputable def c152_3 : Code:=S.getC c152_2 [1]
noncomputable def G152_2 (cs:Oracle) (lf:Nat) (b:Int) (c:Bool) (l:List D) (t:Int) (n r:D) (e g:Int) (m:Bool) (v2_0 v2_1 v2_2:Int) (v2_3 v2_4:Bool) (v2_5 v2_6:AV) (v2_7:Bool) (v2_8 v2_9 v2_10 v2_11 v2_12:AV) (v2_13:Bool) (v2_14 v2_15 v2_16 v2_17 v2_18 v2_19 v2_20 v2_21 v2_22 v2_23 v2_24 v2_25 v2_26 v2_27:AV) (v2_28:Bool) (v2_29:List D) (v2_30:Int) (v2_31 v2_32:D) (v2_33 v2_34 v2_35:Int) (P:(Int) → (Int) → (Int) → (Bool) → (Bool) → (AV) → (AV) → (Bool) → (AV) → (AV) → (AV) → (AV) → (AV) → (Bool) → (AV) → (AV) → (AV) → (AV) → (AV) → (AV) → (AV) → (AV) → (AV) → (AV) → (AV) → (AV) → (AV) → (AV) → (Bool) → (Bool) → (AV) → (AV) → (AV) → (AV) → (AV) → (AV) → (Bool) → (List D) → (Int) → (D) → (D) → (Int) → (Int) → (Int) → Option (S.Hms.T [.any] × FB)) : Option (S.Hms.T [.any] × FB) :=
 cond (!c)
  (cond (v2_1 == (10:Int))
   (P v2_0 ((1:Int)) v2_2 v2_3 v2_4 v2_5 v2_6 v2_7 v2_8 v2_9 v2_10 v2_11 v2_12 v2_13 v2_14 v2_15 v2_16 v2_17 v2_18 v2_19 v2_20 v2_21 v2_22 v2_23 v2_24 v2_25 v2_26 v2_27 v2_28 (true) (AV.im (D.int .i64 v2_1)) (AV.im (D.bool (v2_1 == (10:Int)))) (AV.im (D.bool true)) (AV.tup []) (AV.tup []) (AV.im (D.bool true)) (true) v2_29 v2_30 v2_31 v2_32 v2_33 v2_34 v2_35)
   (cond (v2_1 == (11:Int))
    (P v2_0 ((1:Int)) v2_2 v2_3 v2_4 v2_5 v2_6 v2_7 v2_8 v2_9 v2_10 v2_11 v2_12 v2_13 v2_14 v2_15 v2_16 v2_17 v2_18 v2_19 v2_20 v2_21 v2_22 v2_23 v2_24 v2_25 v2_26 v2_27 v2_28 (true) (AV.im (D.int .i64 v2_1)) (AV.im (D.bool (v2_1 == (10:Int)))) (AV.im (D.bool false)) (AV.im (D.int .i64 v2_1)) (AV.im (D.bool (v2_1 == (11:Int)))) (AV.im (D.bool (v2_1 == (11:Int)))) (v2_1 == (11:Int)) v2_29 v2_30 v2_31 v2_32 v2_33 v2_34 v2_35)
    (P v2_0 v2_1 v2_2 v2_3 v2_4 v2_5 v2_6 v2_7 v2_8 v2_9 v2_10 v2_11 v2_12 v2_13 v2_14 v2_15 v2_16 v2_17 v2_18 v2_19 v2_20 v2_21 v2_22 v2_23 v2_24 v2_25 v2_26 v2_27 v2_28 (true) (AV.im (D.int .i64 v2_1)) (AV.im (D.bool (v2_1 == (10:Int)))) (AV.im (D.bool false)) (AV.im (D.int .i64 v2_1)) (AV.im (D.bool (v2_1 == (11:Int)))) (AV.im (D.bool (v2_1 == (11:Int)))) (v2_1 == (11:Int)) v2_29 v2_30 v2_31 v2_32 v2_33 v2_34 v2_35)))
  (P v2_0 v2_1 v2_2 v2_3 v2_4 v2_5 v2_6 v2_7 v2_8 v2_9 v2_10 v2_11 v2_12 v2_13 v2_14 v2_15 v2_16 v2_17 v2_18 v2_19 v2_20 v2_21 v2_22 v2_23 v2_24 v2_25 v2_26 v2_27 v2_28 (false) (AV.tup []) (AV.tup []) (AV.tup []) (AV.tup []) (AV.tup []) (AV.tup []) (false) v2_29 v2_30 v2_31 v2_32 v2_33 v2_34 v2_35)
theorem G152_2_eq (cs:Oracle) (lf:Nat) (b:Int) (c:Bool) (l:List D) (t:Int) (n r:D) (e g:Int) (m:Bool) (v2_0 v2_1 v2_2:Int) (v2_3 v2_4:Bool) (v2_5 v2_6:AV) (v2_7:Bool) (v2_8 v2_9 v2_10 v2_11 v2_12:AV) (v2_13:Bool) (v2_14 v2_15 v2_16 v2_17 v2_18 v2_19 v2_20 v2_21 v2_22 v2_23 v2_24 v2_25 v2_26 v2_27:AV) (v2_28:Bool) (v2_29:List D) (v2_30:Int) (v2_31 v2_32:D) (v2_33 v2_34 v2_35:Int) (cb:Code) : S.execZQ (X152 cs) SG lf (S.putC c152_2 [1] cb) (E152_2 b c l t n r e g m v2_0 v2_1 v2_2 v2_3 v2_4 v2_5 v2_6 v2_7 v2_8 v2_9 v2_10 v2_11 v2_12 v2_13 v2_14 v2_15 v2_16 v2_17 v2_18 v2_19 v2_20 v2_21 v2_22 v2_23 v2_24 v2_25 v2_26 v2_27 v2_28 v2_29 v2_30 v2_31 v2_32 v2_33 v2_34 v2_35) (H152_2 b c l t n r e g m v2_0 v2_1 v2_2 v2_3 v2_4 v2_5 v2_6 v2_7 v2_8 v2_9 v2_10 v2_11 v2_12 v2_13 v2_14 v2_15 v2_16 v2_17 v2_18 v2_19 v2_20 v2_21 v2_22 v2_23 v2_24 v2_25 v2_26 v2_27 v2_28 v2_29 v2_30 v2_31 v2_32 v2_33 v2_34 v2_35) K152 = G152_2 cs lf b c l t n r e g m v2_0 v2_1 v2_2 v2_3 v2_4 v2_5 v2_6 v2_7 v2_8 v2_9 v2_10 v2_11 v2_12 v2_13 v2_14 v2_15 v2_16 v2_17 v2_18 v2_19 v2_20 v2_21 v2_22 v2_23 v2_24 v2_25 v2_26 v2_27 v2_28 v2_29 v2_30 v2_31 v2_32 v2_33 v2_34 v2_35 (fun v3_0 v3_1 v3_2 v3_3 v3_4 v3_5 v3_6 v3_7 v3_8 v3_9 v3_10 v3_11 v3_12 v3_13 v3_14 v3_15 v3_16 v3_17 v3_18 v3_19 v3_20 v3_21 v3_22 v3_23 v3_24 v3_25 v3_26 v3_27 v3_28 v3_29 v3_30 v3_31 v3_32 v3_33 v3_34 v3_35 v3_36 v3_37 v3_38 v3_39 v3_40 v3_41 v3_42 v3_43=>S.execZQ (X152 cs) SG lf cb (E152_3 b c l t n r e g m v3_0 v3_1 v3_2 v3_3 v3_4 v3_5 v3_6 v3_7 v3_8 v3_9 v3_10 v3_11 v3_12 v3_13 v3_14 v3_15 v3_16 v3_17 v3_18 v3_19 v3_20 v3_21 v3_22 v3_23 v3_24 v3_25 v3_26 v3_27 v3_28 v3_29 v3_30 v3_31 v3_32 v3_33 v3_34 v3_35 v3_36 v3_37 v3_38 v3_39 v3_40 v3_41 v3_42 v3_43) (H152_3 b c l t n r e g m v3_0 v3_1 v3_2 v3_3 v3_4 v3_5 v3_6 v3_7 v3_8 v3_9 v3_10 v3_11 v3_12 v3_13 v3_14 v3_15 v3_16 v3_17 v3_18 v3_19 v3_20 v3_21 v3_22 v3_23 v3_24 v3_25 v3_26 v3_27 v3_28 v3_29 v3_30 v3_31 v3_32 v3_33 v3_34 v3_35 v3_36 v3_37 v3_38 v3_39 v3_40 v3_41 v3_42 v3_43) K152):=by
 kernel_rfl
noncomputable def F152_3 (cs:Oracle) (lf:Nat) (b:Int) (c:Bool) (l:List D) (t:Int) (n r:D) (e g:Int) (m:Bool) (v3_0 v3_1 v3_2:Int) (v3_3 v3_4:Bool) (v3_5 v3_6:AV) (v3_7:Bool) (v3_8 v3_9 v3_10 v3_11 v3_12:AV) (v3_13:Bool) (v3_14 v3_15 v3_16 v3_17 v3_18 v3_19 v3_20 v3_21 v3_22 v3_23 v3_24 v3_25 v3_26 v3_27:AV) (v3_28 v3_29:Bool) (v3_30 v3_31 v3_32 v3_33 v3_34 v3_35:AV) (v3_36:Bool) (v3_37:List D) (v3_38:Int) (v3_39 v3_40:D) (v3_41 v3_42 v3_43:Int) : Option (S.Hms.T [.any] × FB) :=
 cond (v3_1 == (2:Int))
  (cond (v3_1 == (2:Int))
   (S.optZ (D.asSl 1 v3_40) fun (d2:List D) =>
    S.optZ (D.asSl 1 v3_40) fun (d3:List D) =>
     cond (decide ((↑(List.length d3) : Int) ≠ (0:Int)))
      (cond (decide ((0:Int) ≤ Int.tmod (IntKind.wrap .i64 (Int.tdiv v3_0 (16:Int))) (↑(List.length d3) : Int)))
       (S.optZ (d2[Int.toNat (Int.tmod (IntKind.wrap .i64 (Int.tdiv v3_0 (16:Int))) (↑(List.length d3) : Int))]?) fun (d4:D) =>
        S.optZ (D.asStr d4) fun (d5:List UInt8) =>
         S.optZ (S.lentS cs (SF [S.Hm.any]) 195 [AV.ptr 0 0 0,AV.im (D.int .i64 (1:Int))] [some (Blk.c 7 [D.agg [D.sl false 1 v3_37,D.int .i64 v3_38,v3_39,v3_40,D.int .i64 v3_41,D.int .i64 v3_42,D.bool v3_3]])]) fun (d6:(D × Unit) × FX × Unit) =>
          S.optZ (S.stDec EX d6.1.1) fun (d7:EXT) =>
           cond (S.eqA (AV.im (exD d7)) (AV.im (exD d7)))
            (S.optZ (S.lentS cs (SF [S.Hm.any]) 195 [AV.ptr 0 0 0,AV.im (D.int .i64 (2:Int))] (FHp d6.2.1)) fun (d8:(D × Unit) × FX × Unit) =>
             S.optZ (S.stDec EX d8.1.1) fun (d9:EXT) =>
              cond (S.eqA (AV.im (exD d7)) (AV.im (exD d7)))
               (some (((D.agg [D.int .i64 (1:Int),D.int .i64 v3_43,D.str d5,D.str [],D.sl false 5 [exD d7,exD d9],D.sl false 7 [],D.sl false 7 []],()),(FTp d8.2.1),())))
               (none))
            (none))
       (none))
      (none))
   (cond (v3_1 == (4:Int))
    (S.optZ (D.asSl 1 v3_39) fun (d10:List D) =>
     S.optZ (D.asSl 1 v3_39) fun (d11:List D) =>
      cond (decide ((↑(List.length d11) : Int) ≠ (0:Int)))
       (cond (decide ((0:Int) ≤ Int.tmod (IntKind.wrap .i64 (Int.tdiv v3_0 (16:Int))) (↑(List.length d11) : Int)))
        (S.optZ (d10[Int.toNat (Int.tmod (IntKind.wrap .i64 (Int.tdiv v3_0 (16:Int))) (↑(List.length d11) : Int))]?) fun (d12:D) =>
         S.optZ (D.asStr d12) fun (d13:List UInt8) =>
          some (((D.agg [D.int .i64 (2:Int),D.int .i64 v3_43,D.str d13,D.str [],D.sl false 5 [],D.sl false 7 [],D.sl false 7 []],()),(v3_37,v3_38,v3_39,v3_40,v3_41,v3_42,v3_3,()),())))
        (none))
       (none))
    (cond (v3_1 == (5:Int))
     (cond (v3_1 == (5:Int))
      (S.optZ (S.lentS cs (SF [S.Hm.any]) 195 [AV.ptr 0 0 0,AV.im (D.int .i64 (2:Int))] [some (Blk.c 7 [D.agg [D.sl false 1 v3_37,D.int .i64 v3_38,v3_39,v3_40,D.int .i64 v3_41,D.int .i64 v3_42,D.bool v3_3]])]) fun (d14:(D × Unit) × FX × Unit) =>
       S.optZ (S.stDec EX d14.1.1) fun (d15:EXT) =>
        S.optZ (S.lentS cs (SF [S.Hm.sl 7]) 96 [AV.ptr 0 0 0,AV.im (D.int .i64 (IntKind.wrap .i64 (b - (1:Int)))),AV.im (D.int .i64 (3:Int)),AV.im (D.bool c)] (FHp d14.2.1)) fun (d16:(List D × Unit) × FX × Unit) =>
         cond (decide (Int.tmod v3_0 (32:Int) < (16:Int)))
          (S.optZ (S.lentS cs (SF [S.Hm.sl 7]) 96 [AV.ptr 0 0 0,AV.im (D.int .i64 (IntKind.wrap .i64 (b - (1:Int)))),AV.im (D.int .i64 (2:Int)),AV.im (D.bool c)] (FHp d16.2.1)) fun (d17:(List D × Unit) × FX × Unit) =>
           some (((D.agg [D.int .i64 (4:Int),D.int .i64 v3_43,D.str [],D.str [],D.sl false 5 [exD d15],D.sl false 7 d16.1.1,D.sl false 7 d17.1.1],()),(FTp d17.2.1),())))
          (some (((D.agg [D.int .i64 (4:Int),D.int .i64 v3_43,D.str [],D.str [],D.sl false 5 [exD d15],D.sl false 7 d16.1.1,D.sl false 7 []],()),(FTp d16.2.1),()))))
      (cond (v3_1 == (7:Int))
       (cond (v3_1 == (7:Int))
        (S.optZ (S.lentS cs (SF [S.Hm.any]) 195 [AV.ptr 0 0 0,AV.im (D.int .i64 (2:Int))] [some (Blk.c 7 [D.agg [D.sl false 1 v3_37,D.int .i64 v3_38,v3_39,v3_40,D.int .i64 v3_41,D.int .i64 v3_42,D.bool v3_3]])]) fun (d18:(D × Unit) × FX × Unit) =>
         S.optZ (S.stDec EX d18.1.1) fun (d19:EXT) =>
          S.optZ (S.lentS cs (SF [S.Hm.sl 7]) 96 [AV.ptr 0 0 0,AV.im (D.int .i64 (IntKind.wrap .i64 (b - (1:Int)))),AV.im (D.int .i64 (3:Int)),AV.im (D.bool true)] (FHp d18.2.1)) fun (d20:(List D × Unit) × FX × Unit) =>
           some (((D.agg [D.int .i64 (5:Int),D.int .i64 v3_43,D.str [],D.str [],D.sl false 5 [exD d19],D.sl false 7 d20.1.1,D.sl false 7 []],()),(FTp d20.2.1),())))
        (cond (v3_1 == (9:Int))
         (S.optZ (D.asSl 1 v3_39) fun (d21:List D) =>
          S.optZ (D.asSl 1 v3_39) fun (d22:List D) =>
           cond (decide ((↑(List.length d22) : Int) ≠ (0:Int)))
            (cond (decide ((0:Int) ≤ Int.tmod (IntKind.wrap .i64 (Int.tdiv v3_0 (16:Int))) (↑(List.length d22) : Int)))
             (S.optZ (d21[Int.toNat (Int.tmod (IntKind.wrap .i64 (Int.tdiv v3_0 (16:Int))) (↑(List.length d22) : Int))]?) fun (d23:D) =>
              S.optZ (D.asStr d23) fun (d24:List UInt8) =>
               S.optZ (S.lentS cs (SF [S.Hm.any]) 195 [AV.ptr 0 0 0,AV.im (D.int .i64 (1:Int))] [some (Blk.c 7 [D.agg [D.sl false 1 v3_37,D.int .i64 v3_38,v3_39,v3_40,D.int .i64 v3_41,D.int .i64 v3_42,D.bool v3_3]])]) fun (d25:(D × Unit) × FX × Unit) =>
                S.optZ (S.stDec EX d25.1.1) fun (d26:EXT) =>
                 cond (decide (Int.tmod v3_0 (32:Int) < (16:Int)))
                  (cond (S.eqA (AV.im (D.sl true 5 [exD d26])) (AV.im (D.sl true 5 [exD d26])))
                   (S.optZ (S.lentS cs (SF [S.Hm.any]) 195 [AV.ptr 0 0 0,AV.im (D.int .i64 (1:Int))] (FHp d25.2.1)) fun (d27:(D × Unit) × FX × Unit) =>
                    S.optZ (S.stDec EX d27.1.1) fun (d28:EXT) =>
                     cond (S.eqA (AV.im (D.sl true 5 [exD d26])) (AV.im (D.sl true 5 [exD d26])))
                      (cond (S.eqA (AV.im (D.sl true 5 [exD d26])) (AV.im (D.sl true 5 [exD d26])))
                       (some (((D.agg [D.int .i64 (3:Int),D.int .i64 v3_43,D.str d24,D.str [104],D.sl false 5 [exD d26,exD d28],D.sl false 7 [],D.sl false 7 []],()),(FTp d27.2.1),())))
                       (none))
                      (none))
                   (none))
                  (some (((D.agg [D.int .i64 (3:Int),D.int .i64 v3_43,D.str d24,D.str [103],D.sl false 5 [exD d26],D.sl false 7 [],D.sl false 7 []],()),(FTp d25.2.1),()))))
             (none))
            (none))
         (cond (v3_1 == (10:Int))
          (some (((D.agg [D.int .i64 (6:Int),D.int .i64 v3_43,D.str [],D.str [],D.sl false 5 [],D.sl false 7 [],D.sl false 7 []],()),(v3_37,v3_38,v3_39,v3_40,v3_41,v3_42,v3_3,()),())))
          (cond (v3_1 == (11:Int))
           (some (((D.agg [D.int .i64 (7:Int),D.int .i64 v3_43,D.str [],D.str [],D.sl false 5 [],D.sl false 7 [],D.sl false 7 []],()),(v3_37,v3_38,v3_39,v3_40,v3_41,v3_42,v3_3,()),())))
           (cond (v3_1 == (12:Int))
            (S.optZ (S.lentS cs (SF [S.Hm.any]) 195 [AV.ptr 0 0 0,AV.im (D.int .i64 (2:Int))] [some (Blk.c 7 [D.agg [D.sl false 1 v3_37,D.int .i64 v3_38,v3_39,v3_40,D.int .i64 v3_41,D.int .i64 v3_42,D.bool v3_3]])]) fun (d29:(D × Unit) × FX × Unit) =>
             S.optZ (S.stDec EX d29.1.1) fun (d30:EXT) =>
              some (((D.agg [D.int .i64 (9:Int),D.int .i64 v3_43,D.str [],D.str [],D.sl false 5 [exD d30],D.sl false 7 [],D.sl false 7 []],()),(FTp d29.2.1),())))
            (cond (v3_1 == (13:Int))
             (S.optZ (S.lentS cs (SF [S.Hm.any]) 195 [AV.ptr 0 0 0,AV.im (D.int .i64 (1:Int))] [some (Blk.c 7 [D.agg [D.sl false 1 v3_37,D.int .i64 v3_38,v3_39,v3_40,D.int .i64 v3_41,D.int .i64 v3_42,D.bool v3_3]])]) fun (d31:(D × Unit) × FX × Unit) =>
              S.optZ (S.stDec EX d31.1.1) fun (d32:EXT) =>
               some (((D.agg [D.int .i64 (8:Int),D.int .i64 v3_43,D.str [],D.str [],D.sl false 5 [exD d32],D.sl false 7 [],D.sl false 7 []],()),(FTp d31.2.1),())))
             (S.optZ (D.asSl 1 v3_39) fun (d33:List D) =>
              S.optZ (D.asSl 1 v3_39) fun (d34:List D) =>
               cond (decide ((↑(List.length d34) : Int) ≠ (0:Int)))
                (cond (decide ((0:Int) ≤ Int.tmod (IntKind.wrap .i64 (Int.tdiv v3_0 (16:Int))) (↑(List.length d34) : Int)))
                 (S.optZ (d33[Int.toNat (Int.tmod (IntKind.wrap .i64 (Int.tdiv v3_0 (16:Int))) (↑(List.length d34) : Int))]?) fun (d35:D) =>
                  S.optZ (D.asStr d35) fun (d36:List UInt8) =>
                   S.optZ (S.lentS cs (SF [S.Hm.any]) 195 [AV.ptr 0 0 0,AV.im (D.int .i64 (2:Int))] [some (Blk.c 7 [D.agg [D.sl false 1 v3_37,D.int .i64 v3_38,v3_39,v3_40,D.int .i64 v3_41,D.int .i64 v3_42,D.bool v3_3]])]) fun (d37:(D × Unit) × FX × Unit) =>
                    S.optZ (S.stDec EX d37.1.1) fun (d38:EXT) =>
                     some (((D.agg [D.int .i64 (0:Int),D.int .i64 v3_43,D.str d36,D.str [],D.sl false 5 [exD d38],D.sl false 7 [],D.sl false 7 []],()),(FTp d37.2.1),())))
                 (none))
                (none))))))))
       (cond (v3_1 == (8:Int))
        (S.optZ (S.lentS cs (SF [S.Hm.any]) 195 [AV.ptr 0 0 0,AV.im (D.int .i64 (2:Int))] [some (Blk.c 7 [D.agg [D.sl false 1 v3_37,D.int .i64 v3_38,v3_39,v3_40,D.int .i64 v3_41,D.int .i64 v3_42,D.bool v3_3]])]) fun (d39:(D × Unit) × FX × Unit) =>
         S.optZ (S.stDec EX d39.1.1) fun (d40:EXT) =>
          S.optZ (S.lentS cs (SF [S.Hm.sl 7]) 96 [AV.ptr 0 0 0,AV.im (D.int .i64 (IntKind.wrap .i64 (b - (1:Int)))),AV.im (D.int .i64 (3:Int)),AV.im (D.bool true)] (FHp d39.2.1)) fun (d41:(List D × Unit) × FX × Unit) =>
           some (((D.agg [D.int .i64 (5:Int),D.int .i64 v3_43,D.str [],D.str [],D.sl false 5 [exD d40],D.sl false 7 d41.1.1,D.sl false 7 []],()),(FTp d41.2.1),())))
        (cond (v3_1 == (9:Int))
         (S.optZ (D.asSl 1 v3_39) fun (d42:List D) =>
          S.optZ (D.asSl 1 v3_39) fun (d43:List D) =>
           cond (decide ((↑(List.length d43) : Int) ≠ (0:Int)))
            (cond (decide ((0:Int) ≤ Int.tmod (IntKind.wrap .i64 (Int.tdiv v3_0 (16:Int))) (↑(List.length d43) : Int)))
             (S.optZ (d42[Int.toNat (Int.tmod (IntKind.wrap .i64 (Int.tdiv v3_0 (16:Int))) (↑(List.length d43) : Int))]?) fun (d44:D) =>
              S.optZ (D.asStr d44) fun (d45:List UInt8) =>
               S.optZ (S.lentS cs (SF [S.Hm.any]) 195 [AV.ptr 0 0 0,AV.im (D.int .i64 (1:Int))] [some (Blk.c 7 [D.agg [D.sl false 1 v3_37,D.int .i64 v3_38,v3_39,v3_40,D.int .i64 v3_41,D.int .i64 v3_42,D.bool v3_3]])]) fun (d46:(D × Unit) × FX × Unit) =>
                S.optZ (S.stDec EX d46.1.1) fun (d47:EXT) =>
                 cond (decide (Int.tmod v3_0 (32:Int) < (16:Int)))
                  (cond (S.eqA (AV.im (D.sl true 5 [exD d47])) (AV.im (D.sl true 5 [exD d47])))
                   (S.optZ (S.lentS cs (SF [S.Hm.any]) 195 [AV.ptr 0 0 0,AV.im (D.int .i64 (1:Int))] (FHp d46.2.1)) fun (d48:(D × Unit) × FX × Unit) =>
                    S.optZ (S.stDec EX d48.1.1) fun (d49:EXT) =>
                     cond (S.eqA (AV.im (D.sl true 5 [exD d47])) (AV.im (D.sl true 5 [exD d47])))
                      (cond (S.eqA (AV.im (D.sl true 5 [exD d47])) (AV.im (D.sl true 5 [exD d47])))
                       (some (((D.agg [D.int .i64 (3:Int),D.int .i64 v3_43,D.str d45,D.str [104],D.sl false 5 [exD d47,exD d49],D.sl false 7 [],D.sl false 7 []],()),(FTp d48.2.1),())))
                       (none))
                      (none))
                   (none))
                  (some (((D.agg [D.int .i64 (3:Int),D.int .i64 v3_43,D.str d45,D.str [103],D.sl false 5 [exD d47],D.sl false 7 [],D.sl false 7 []],()),(FTp d46.2.1),()))))
             (none))
            (none))
         (cond (v3_1 == (10:Int))
          (some (((D.agg [D.int .i64 (6:Int),D.int .i64 v3_43,D.str [],D.str [],D.sl false 5 [],D.sl false 7 [],D.sl false 7 []],()),(v3_37,v3_38,v3_39,v3_40,v3_41,v3_42,v3_3,()),())))
          (cond (v3_1 == (11:Int))
           (some (((D.agg [D.int .i64 (7:Int),D.int .i64 v3_43,D.str [],D.str [],D.sl false 5 [],D.sl false 7 [],D.sl false 7 []],()),(v3_37,v3_38,v3_39,v3_40,v3_41,v3_42,v3_3,()),())))
           (cond (v3_1 == (12:Int))
            (S.optZ (S.lentS cs (SF [S.Hm.any]) 195 [AV.ptr 0 0 0,AV.im (D.int .i64 (2:Int))] [some (Blk.c 7 [D.agg [D.sl false 1 v3_37,D.int .i64 v3_38,v3_39,v3_40,D.int .i64 v3_41,D.int .i64 v3_42,D.bool v3_3]])]) fun (d50:(D × Unit) × FX × Unit) =>
             S.optZ (S.stDec EX d50.1.1) fun (d51:EXT) =>
              some (((D.agg [D.int .i64 (9:Int),D.int .i64 v3_43,D.str [],D.str [],D.sl false 5 [exD d51],D.sl false 7 [],D.sl false 7 []],()),(FTp d50.2.1),())))
            (cond (v3_1 == (13:Int))
             (S.optZ (S.lentS cs (SF [S.Hm.any]) 195 [AV.ptr 0 0 0,AV.im (D.int .i64 (1:Int))] [some (Blk.c 7 [D.agg [D.sl false 1 v3_37,D.int .i64 v3_38,v3_39,v3_40,D.int .i64 v3_41,D.int .i64 v3_42,D.bool v3_3]])]) fun (d52:(D × Unit) × FX × Unit) =>
              S.optZ (S.stDec EX d52.1.1) fun (d53:EXT) =>
               some (((D.agg [D.int .i64 (8:Int),D.int .i64 v3_43,D.str [],D.str [],D.sl false 5 [exD d53],D.sl false 7 [],D.sl false 7 []],()),(FTp d52.2.1),())))
             (S.optZ (D.asSl 1 v3_39) fun (d54:List D) =>
              S.optZ (D.asSl 1 v3_39) fun (d55:List D) =>
               cond (decide ((↑(List.length d55) : Int) ≠ (0:Int)))
                (cond (decide ((0:Int) ≤ Int.tmod (IntKind.wrap .i64 (Int.tdiv v3_0 (16:Int))) (↑(List.length d55) : Int)))
                 (S.optZ (d54[Int.toNat (Int.tmod (IntKind.wrap .i64 (Int.tdiv v3_0 (16:Int))) (↑(List.length d55) : Int))]?) fun (d56:D) =>
                  S.optZ (D.asStr d56) fun (d57:List UInt8) =>
                   S.optZ (S.lentS cs (SF [S.Hm.any]) 195 [AV.ptr 0 0 0,AV.im (D.int .i64 (2:Int))] [some (Blk.c 7 [D.agg [D.sl false 1 v3_37,D.int .i64 v3_38,v3_39,v3_40,D.int .i64 v3_41,D.int .i64 v3_42,D.bool v3_3]])]) fun (d58:(D × Unit) × FX × Unit) =>
                    S.optZ (S.stDec EX d58.1.1) fun (d59:EXT) =>
                     some (((D.agg [D.int .i64 (0:Int),D.int .i64 v3_43,D.str d57,D.str [],D.sl false 5 [exD d59],D.sl false 7 [],D.sl false 7 []],()),(FTp d58.2.1),())))
                 (none))
                (none))))))))))
     (cond (v3_1 == (6:Int))
      (S.optZ (S.lentS cs (SF [S.Hm.any]) 195 [AV.ptr 0 0 0,AV.im (D.int .i64 (2:Int))] [some (Blk.c 7 [D.agg [D.sl false 1 v3_37,D.int .i64 v3_38,v3_39,v3_40,D.int .i64 v3_41,D.int .i64 v3_42,D.bool v3_3]])]) fun (d60:(D × Unit) × FX × Unit) =>
       S.optZ (S.stDec EX d60.1.1) fun (d61:EXT) =>
        S.optZ (S.lentS cs (SF [S.Hm.sl 7]) 96 [AV.ptr 0 0 0,AV.im (D.int .i64 (IntKind.wrap .i64 (b - (1:Int)))),AV.im (D.int .i64 (3:Int)),AV.im (D.bool c)] (FHp d60.2.1)) fun (d62:(List D × Unit) × FX × Unit) =>
         cond (decide (Int.tmod v3_0 (32:Int) < (16:Int)))
          (S.optZ (S.lentS cs (SF [S.Hm.sl 7]) 96 [AV.ptr 0 0 0,AV.im (D.int .i64 (IntKind.wrap .i64 (b - (1:Int)))),AV.im (D.int .i64 (2:Int)),AV.im (D.bool c)] (FHp d62.2.1)) fun (d63:(List D × Unit) × FX × Unit) =>
           some (((D.agg [D.int .i64 (4:Int),D.int .i64 v3_43,D.str [],D.str [],D.sl false 5 [exD d61],D.sl false 7 d62.1.1,D.sl false 7 d63.1.1],()),(FTp d63.2.1),())))
          (some (((D.agg [D.int .i64 (4:Int),D.int .i64 v3_43,D.str [],D.str [],D.sl false 5 [exD d61],D.sl false 7 d62.1.1,D.sl false 7 []],()),(FTp d62.2.1),()))))
      (cond (v3_1 == (7:Int))
       (cond (v3_1 == (7:Int))
        (S.optZ (S.lentS cs (SF [S.Hm.any]) 195 [AV.ptr 0 0 0,AV.im (D.int .i64 (2:Int))] [some (Blk.c 7 [D.agg [D.sl false 1 v3_37,D.int .i64 v3_38,v3_39,v3_40,D.int .i64 v3_41,D.int .i64 v3_42,D.bool v3_3]])]) fun (d64:(D × Unit) × FX × Unit) =>
         S.optZ (S.stDec EX d64.1.1) fun (d65:EXT) =>
          S.optZ (S.lentS cs (SF [S.Hm.sl 7]) 96 [AV.ptr 0 0 0,AV.im (D.int .i64 (IntKind.wrap .i64 (b - (1:Int)))),AV.im (D.int .i64 (3:Int)),AV.im (D.bool true)] (FHp d64.2.1)) fun (d66:(List D × Unit) × FX × Unit) =>
           some (((D.agg [D.int .i64 (5:Int),D.int .i64 v3_43,D.str [],D.str [],D.sl false 5 [exD d65],D.sl false 7 d66.1.1,D.sl false 7 []],()),(FTp d66.2.1),())))
        (cond (v3_1 == (9:Int))
         (S.optZ (D.asSl 1 v3_39) fun (d67:List D) =>
          S.optZ (D.asSl 1 v3_39) fun (d68:List D) =>
           cond (decide ((↑(List.length d68) : Int) ≠ (0:Int)))
            (cond (decide ((0:Int) ≤ Int.tmod (IntKind.wrap .i64 (Int.tdiv v3_0 (16:Int))) (↑(List.length d68) : Int)))
             (S.optZ (d67[Int.toNat (Int.tmod (IntKind.wrap .i64 (Int.tdiv v3_0 (16:Int))) (↑(List.length d68) : Int))]?) fun (d69:D) =>
              S.optZ (D.asStr d69) fun (d70:List UInt8) =>
               S.optZ (S.lentS cs (SF [S.Hm.any]) 195 [AV.ptr 0 0 0,AV.im (D.int .i64 (1:Int))] [some (Blk.c 7 [D.agg [D.sl false 1 v3_37,D.int .i64 v3_38,v3_39,v3_40,D.int .i64 v3_41,D.int .i64 v3_42,D.bool v3_3]])]) fun (d71:(D × Unit) × FX × Unit) =>
                S.optZ (S.stDec EX d71.1.1) fun (d72:EXT) =>
                 cond (decide (Int.tmod v3_0 (32:Int) < (16:Int)))
                  (cond (S.eqA (AV.im (D.sl true 5 [exD d72])) (AV.im (D.sl true 5 [exD d72])))
                   (S.optZ (S.lentS cs (SF [S.Hm.any]) 195 [AV.ptr 0 0 0,AV.im (D.int .i64 (1:Int))] (FHp d71.2.1)) fun (d73:(D × Unit) × FX × Unit) =>
                    S.optZ (S.stDec EX d73.1.1) fun (d74:EXT) =>
                     cond (S.eqA (AV.im (D.sl true 5 [exD d72])) (AV.im (D.sl true 5 [exD d72])))
                      (cond (S.eqA (AV.im (D.sl true 5 [exD d72])) (AV.im (D.sl true 5 [exD d72])))
                       (some (((D.agg [D.int .i64 (3:Int),D.int .i64 v3_43,D.str d70,D.str [104],D.sl false 5 [exD d72,exD d74],D.sl false 7 [],D.sl false 7 []],()),(FTp d73.2.1),())))
                       (none))
                      (none))
                   (none))
                  (some (((D.agg [D.int .i64 (3:Int),D.int .i64 v3_43,D.str d70,D.str [103],D.sl false 5 [exD d72],D.sl false 7 [],D.sl false 7 []],()),(FTp d71.2.1),()))))
             (none))
            (none))
         (cond (v3_1 == (10:Int))
          (some (((D.agg [D.int .i64 (6:Int),D.int .i64 v3_43,D.str [],D.str [],D.sl false 5 [],D.sl false 7 [],D.sl false 7 []],()),(v3_37,v3_38,v3_39,v3_40,v3_41,v3_42,v3_3,()),())))
          (cond (v3_1 == (11:Int))
           (some (((D.agg [D.int .i64 (7:Int),D.int .i64 v3_43,D.str [],D.str [],D.sl false 5 [],D.sl false 7 [],D.sl false 7 []],()),(v3_37,v3_38,v3_39,v3_40,v3_41,v3_42,v3_3,()),())))
           (cond (v3_1 == (12:Int))
            (S.optZ (S.lentS cs (SF [S.Hm.any]) 195 [AV.ptr 0 0 0,AV.im (D.int .i64 (2:Int))] [some (Blk.c 7 [D.agg [D.sl false 1 v3_37,D.int .i64 v3_38,v3_39,v3_40,D.int .i64 v3_41,D.int .i64 v3_42,D.bool v3_3]])]) fun (d75:(D × Unit) × FX × Unit) =>
             S.optZ (S.stDec EX d75.1.1) fun (d76:EXT) =>
              some (((D.agg [D.int .i64 (9:Int),D.int .i64 v3_43,D.str [],D.str [],D.sl false 5 [exD d76],D.sl false 7 [],D.sl false 7 []],()),(FTp d75.2.1),())))
            (cond (v3_1 == (13:Int))
             (S.optZ (S.lentS cs (SF [S.Hm.any]) 195 [AV.ptr 0 0 0,AV.im (D.int .i64 (1:Int))] [some (Blk.c 7 [D.agg [D.sl false 1 v3_37,D.int .i64 v3_38,v3_39,v3_40,D.int .i64 v3_41,D.int .i64 v3_42,D.bool v3_3]])]) fun (d77:(D × Unit) × FX × Unit) =>
              S.optZ (S.stDec EX d77.1.1) fun (d78:EXT) =>
               some (((D.agg [D.int .i64 (8:Int),D.int .i64 v3_43,D.str [],D.str [],D.sl false 5 [exD d78],D.sl false 7 [],D.sl false 7 []],()),(FTp d77.2.1),())))
             (S.optZ (D.asSl 1 v3_39) fun (d79:List D) =>
              S.optZ (D.asSl 1 v3_39) fun (d80:List D) =>
               cond (decide ((↑(List.length d80) : Int) ≠ (0:Int)))
                (cond (decide ((0:Int) ≤ Int.tmod (IntKind.wrap .i64 (Int.tdiv v3_0 (16:Int))) (↑(List.length d80) : Int)))
                 (S.optZ (d79[Int.toNat (Int.tmod (IntKind.wrap .i64 (Int.tdiv v3_0 (16:Int))) (↑(List.length d80) : Int))]?) fun (d81:D) =>
                  S.optZ (D.asStr d81) fun (d82:List UInt8) =>
                   S.optZ (S.lentS cs (SF [S.Hm.any]) 195 [AV.ptr 0 0 0,AV.im (D.int .i64 (2:Int))] [some (Blk.c 7 [D.agg [D.sl false 1 v3_37,D.int .i64 v3_38,v3_39,v3_40,D.int .i64 v3_41,D.int .i64 v3_42,D.bool v3_3]])]) fun (d83:(D × Unit) × FX × Unit) =>
                    S.optZ (S.stDec EX d83.1.1) fun (d84:EXT) =>
                     some (((D.agg [D.int .i64 (0:Int),D.int .i64 v3_43,D.str d82,D.str [],D.sl false 5 [exD d84],D.sl false 7 [],D.sl false 7 []],()),(FTp d83.2.1),())))
                 (none))
                (none))))))))
       (cond (v3_1 == (8:Int))
        (S.optZ (S.lentS cs (SF [S.Hm.any]) 195 [AV.ptr 0 0 0,AV.im (D.int .i64 (2:Int))] [some (Blk.c 7 [D.agg [D.sl false 1 v3_37,D.int .i64 v3_38,v3_39,v3_40,D.int .i64 v3_41,D.int .i64 v3_42,D.bool v3_3]])]) fun (d85:(D × Unit) × FX × Unit) =>
         S.optZ (S.stDec EX d85.1.1) fun (d86:EXT) =>
          S.optZ (S.lentS cs (SF [S.Hm.sl 7]) 96 [AV.ptr 0 0 0,AV.im (D.int .i64 (IntKind.wrap .i64 (b - (1:Int)))),AV.im (D.int .i64 (3:Int)),AV.im (D.bool true)] (FHp d85.2.1)) fun (d87:(List D × Unit) × FX × Unit) =>
           some (((D.agg [D.int .i64 (5:Int),D.int .i64 v3_43,D.str [],D.str [],D.sl false 5 [exD d86],D.sl false 7 d87.1.1,D.sl false 7 []],()),(FTp d87.2.1),())))
        (cond (v3_1 == (9:Int))
         (S.optZ (D.asSl 1 v3_39) fun (d88:List D) =>
          S.optZ (D.asSl 1 v3_39) fun (d89:List D) =>
           cond (decide ((↑(List.length d89) : Int) ≠ (0:Int)))
            (cond (decide ((0:Int) ≤ Int.tmod (IntKind.wrap .i64 (Int.tdiv v3_0 (16:Int))) (↑(List.length d89) : Int)))
             (S.optZ (d88[Int.toNat (Int.tmod (IntKind.wrap .i64 (Int.tdiv v3_0 (16:Int))) (↑(List.length d89) : Int))]?) fun (d90:D) =>
              S.optZ (D.asStr d90) fun (d91:List UInt8) =>
               S.optZ (S.lentS cs (SF [S.Hm.any]) 195 [AV.ptr 0 0 0,AV.im (D.int .i64 (1:Int))] [some (Blk.c 7 [D.agg [D.sl false 1 v3_37,D.int .i64 v3_38,v3_39,v3_40,D.int .i64 v3_41,D.int .i64 v3_42,D.bool v3_3]])]) fun (d92:(D × Unit) × FX × Unit) =>
                S.optZ (S.stDec EX d92.1.1) fun (d93:EXT) =>
                 cond (decide (Int.tmod v3_0 (32:Int) < (16:Int)))
                  (cond (S.eqA (AV.im (D.sl true 5 [exD d93])) (AV.im (D.sl true 5 [exD d93])))
                   (S.optZ (S.lentS cs (SF [S.Hm.any]) 195 [AV.ptr 0 0 0,AV.im (D.int .i64 (1:Int))] (FHp d92.2.1)) fun (d94:(D × Unit) × FX × Unit) =>
                    S.optZ (S.stDec EX d94.1.1) fun (d95:EXT) =>
                     cond (S.eqA (AV.im (D.sl true 5 [exD d93])) (AV.im (D.sl true 5 [exD d93])))
                      (cond (S.eqA (AV.im (D.sl true 5 [exD d93])) (AV.im (D.sl true 5 [exD d93])))
                       (some (((D.agg [D.int .i64 (3:Int),D.int .i64 v3_43,D.str d91,D.str [104],D.sl false 5 [exD d93,exD d95],D.sl false 7 [],D.sl false 7 []],()),(FTp d94.2.1),())))
                       (none))
                      (none))
                   (none))
                  (some (((D.agg [D.int .i64 (3:Int),D.int .i64 v3_43,D.str d91,D.str [103],D.sl false 5 [exD d93],D.sl false 7 [],D.sl false 7 []],()),(FTp d92.2.1),()))))
             (none))
            (none))
         (cond (v3_1 == (10:Int))
          (some (((D.agg [D.int .i64 (6:Int),D.int .i64 v3_43,D.str [],D.str [],D.sl false 5 [],D.sl false 7 [],D.sl false 7 []],()),(v3_37,v3_38,v3_39,v3_40,v3_41,v3_42,v3_3,()),())))
          (cond (v3_1 == (11:Int))
           (some (((D.agg [D.int .i64 (7:Int),D.int .i64 v3_43,D.str [],D.str [],D.sl false 5 [],D.sl false 7 [],D.sl false 7 []],()),(v3_37,v3_38,v3_39,v3_40,v3_41,v3_42,v3_3,()),())))
           (cond (v3_1 == (12:Int))
            (S.optZ (S.lentS cs (SF [S.Hm.any]) 195 [AV.ptr 0 0 0,AV.im (D.int .i64 (2:Int))] [some (Blk.c 7 [D.agg [D.sl false 1 v3_37,D.int .i64 v3_38,v3_39,v3_40,D.int .i64 v3_41,D.int .i64 v3_42,D.bool v3_3]])]) fun (d96:(D × Unit) × FX × Unit) =>
             S.optZ (S.stDec EX d96.1.1) fun (d97:EXT) =>
              some (((D.agg [D.int .i64 (9:Int),D.int .i64 v3_43,D.str [],D.str [],D.sl false 5 [exD d97],D.sl false 7 [],D.sl false 7 []],()),(FTp d96.2.1),())))
            (cond (v3_1 == (13:Int))
             (S.optZ (S.lentS cs (SF [S.Hm.any]) 195 [AV.ptr 0 0 0,AV.im (D.int .i64 (1:Int))] [some (Blk.c 7 [D.agg [D.sl false 1 v3_37,D.int .i64 v3_38,v3_39,v3_40,D.int .i64 v3_41,D.int .i64 v3_42,D.bool v3_3]])]) fun (d98:(D × Unit) × FX × Unit) =>
              S.optZ (S.stDec EX d98.1.1) fun (d99:EXT) =>
               some (((D.agg [D.int .i64 (8:Int),D.int .i64 v3_43,D.str [],D.str [],D.sl false 5 [exD d99],D.sl false 7 [],D.sl false 7 []],()),(FTp d98.2.1),())))
             (S.optZ (D.asSl 1 v3_39) fun (d100:List D) =>
              S.optZ (D.asSl 1 v3_39) fun (d101:List D) =>
               cond (decide ((↑(List.length d101) : Int) ≠ (0:Int)))
                (cond (decide ((0:Int) ≤ Int.tmod (IntKind.wrap .i64 (Int.tdiv v3_0 (16:Int))) (↑(List.length d101) : Int)))
                 (S.optZ (d100[Int.toNat (Int.tmod (IntKind.wrap .i64 (Int.tdiv v3_0 (16:Int))) (↑(List.length d101) : Int))]?) fun (d102:D) =>
                  S.optZ (D.asStr d102) fun (d103:List UInt8) =>
                   S.optZ (S.lentS cs (SF [S.Hm.any]) 195 [AV.ptr 0 0 0,AV.im (D.int .i64 (2:Int))] [some (Blk.c 7 [D.agg [D.sl false 1 v3_37,D.int .i64 v3_38,v3_39,v3_40,D.int .i64 v3_41,D.int .i64 v3_42,D.bool v3_3]])]) fun (d104:(D × Unit) × FX × Unit) =>
                    S.optZ (S.stDec EX d104.1.1) fun (d105:EXT) =>
                     some (((D.agg [D.int .i64 (0:Int),D.int .i64 v3_43,D.str d103,D.str [],D.sl false 5 [exD d105],D.sl false 7 [],D.sl false 7 []],()),(FTp d104.2.1),())))
                 (none))
                (none)))))))))))))
  (cond (v3_1 == (3:Int))
   (S.optZ (D.asSl 1 v3_40) fun (d106:List D) =>
    S.optZ (D.asSl 1 v3_40) fun (d107:List D) =>
     cond (decide ((↑(List.length d107) : Int) ≠ (0:Int)))
      (cond (decide ((0:Int) ≤ Int.tmod (IntKind.wrap .i64 (Int.tdiv v3_0 (16:Int))) (↑(List.length d107) : Int)))
       (S.optZ (d106[Int.toNat (Int.tmod (IntKind.wrap .i64 (Int.tdiv v3_0 (16:Int))) (↑(List.length d107) : Int))]?) fun (d108:D) =>
        S.optZ (D.asStr d108) fun (d109:List UInt8) =>
         S.optZ (S.lentS cs (SF [S.Hm.any]) 195 [AV.ptr 0 0 0,AV.im (D.int .i64 (1:Int))] [some (Blk.c 7 [D.agg [D.sl false 1 v3_37,D.int .i64 v3_38,v3_39,v3_40,D.int .i64 v3_41,D.int .i64 v3_42,D.bool v3_3]])]) fun (d110:(D × Unit) × FX × Unit) =>
          S.optZ (S.stDec EX d110.1.1) fun (d111:EXT) =>
           cond (S.eqA (AV.im (exD d111)) (AV.im (exD d111)))
            (S.optZ (S.lentS cs (SF [S.Hm.any]) 195 [AV.ptr 0 0 0,AV.im (D.int .i64 (2:Int))] (FHp d110.2.1)) fun (d112:(D × Unit) × FX × Unit) =>
             S.optZ (S.stDec EX d112.1.1) fun (d113:EXT) =>
              cond (S.eqA (AV.im (exD d111)) (AV.im (exD d111)))
               (some (((D.agg [D.int .i64 (1:Int),D.int .i64 v3_43,D.str d109,D.str [],D.sl false 5 [exD d111,exD d113],D.sl false 7 [],D.sl false 7 []],()),(FTp d112.2.1),())))
               (none))
            (none))
       (none))
      (none))
   (cond (v3_1 == (4:Int))
    (S.optZ (D.asSl 1 v3_39) fun (d114:List D) =>
     S.optZ (D.asSl 1 v3_39) fun (d115:List D) =>
      cond (decide ((↑(List.length d115) : Int) ≠ (0:Int)))
       (cond (decide ((0:Int) ≤ Int.tmod (IntKind.wrap .i64 (Int.tdiv v3_0 (16:Int))) (↑(List.length d115) : Int)))
        (S.optZ (d114[Int.toNat (Int.tmod (IntKind.wrap .i64 (Int.tdiv v3_0 (16:Int))) (↑(List.length d115) : Int))]?) fun (d116:D) =>
         S.optZ (D.asStr d116) fun (d117:List UInt8) =>
          some (((D.agg [D.int .i64 (2:Int),D.int .i64 v3_43,D.str d117,D.str [],D.sl false 5 [],D.sl false 7 [],D.sl false 7 []],()),(v3_37,v3_38,v3_39,v3_40,v3_41,v3_42,v3_3,()),())))
        (none))
       (none))
    (cond (v3_1 == (5:Int))
     (cond (v3_1 == (5:Int))
      (S.optZ (S.lentS cs (SF [S.Hm.any]) 195 [AV.ptr 0 0 0,AV.im (D.int .i64 (2:Int))] [some (Blk.c 7 [D.agg [D.sl false 1 v3_37,D.int .i64 v3_38,v3_39,v3_40,D.int .i64 v3_41,D.int .i64 v3_42,D.bool v3_3]])]) fun (d118:(D × Unit) × FX × Unit) =>
       S.optZ (S.stDec EX d118.1.1) fun (d119:EXT) =>
        S.optZ (S.lentS cs (SF [S.Hm.sl 7]) 96 [AV.ptr 0 0 0,AV.im (D.int .i64 (IntKind.wrap .i64 (b - (1:Int)))),AV.im (D.int .i64 (3:Int)),AV.im (D.bool c)] (FHp d118.2.1)) fun (d120:(List D × Unit) × FX × Unit) =>
         cond (decide (Int.tmod v3_0 (32:Int) < (16:Int)))
          (S.optZ (S.lentS cs (SF [S.Hm.sl 7]) 96 [AV.ptr 0 0 0,AV.im (D.int .i64 (IntKind.wrap .i64 (b - (1:Int)))),AV.im (D.int .i64 (2:Int)),AV.im (D.bool c)] (FHp d120.2.1)) fun (d121:(List D × Unit) × FX × Unit) =>
           some (((D.agg [D.int .i64 (4:Int),D.int .i64 v3_43,D.str [],D.str [],D.sl false 5 [exD d119],D.sl false 7 d120.1.1,D.sl false 7 d121.1.1],()),(FTp d121.2.1),())))
          (some (((D.agg [D.int .i64 (4:Int),D.int .i64 v3_43,D.str [],D.str [],D.sl false 5 [exD d119],D.sl false 7 d120.1.1,D.sl false 7 []],()),(FTp d120.2.1),()))))
      (cond (v3_1 == (7:Int))
       (cond (v3_1 == (7:Int))
        (S.optZ (S.lentS cs (SF [S.Hm.any]) 195 [AV.ptr 0 0 0,AV.im (D.int .i64 (2:Int))] [some (Blk.c 7 [D.agg [D.sl false 1 v3_37,D.int .i64 v3_38,v3_39,v3_40,D.int .i64 v3_41,D.int .i64 v3_42,D.bool v3_3]])]) fun (d122:(D × Unit) × FX × Unit) =>
         S.optZ (S.stDec EX d122.1.1) fun (d123:EXT) =>
          S.optZ (S.lentS cs (SF [S.Hm.sl 7]) 96 [AV.ptr 0 0 0,AV.im (D.int .i64 (IntKind.wrap .i64 (b - (1:Int)))),AV.im (D.int .i64 (3:Int)),AV.im (D.bool true)] (FHp d122.2.1)) fun (d124:(List D × Unit) × FX × Unit) =>
           some (((D.agg [D.int .i64 (5:Int),D.int .i64 v3_43,D.str [],D.str [],D.sl false 5 [exD d123],D.sl false 7 d124.1.1,D.sl false 7 []],()),(FTp d124.2.1),())))
        (cond (v3_1 == (9:Int))
         (S.optZ (D.asSl 1 v3_39) fun (d125:List D) =>
          S.optZ (D.asSl 1 v3_39) fun (d126:List D) =>
           cond (decide ((↑(List.length d126) : Int) ≠ (0:Int)))
            (cond (decide ((0:Int) ≤ Int.tmod (IntKind.wrap .i64 (Int.tdiv v3_0 (16:Int))) (↑(List.length d126) : Int)))
             (S.optZ (d125[Int.toNat (Int.tmod (IntKind.wrap .i64 (Int.tdiv v3_0 (16:Int))) (↑(List.length d126) : Int))]?) fun (d127:D) =>
              S.optZ (D.asStr d127) fun (d128:List UInt8) =>
               S.optZ (S.lentS cs (SF [S.Hm.any]) 195 [AV.ptr 0 0 0,AV.im (D.int .i64 (1:Int))] [some (Blk.c 7 [D.agg [D.sl false 1 v3_37,D.int .i64 v3_38,v3_39,v3_40,D.int .i64 v3_41,D.int .i64 v3_42,D.bool v3_3]])]) fun (d129:(D × Unit) × FX × Unit) =>
                S.optZ (S.stDec EX d129.1.1) fun (d130:EXT) =>
                 cond (decide (Int.tmod v3_0 (32:Int) < (16:Int)))
                  (cond (S.eqA (AV.im (D.sl true 5 [exD d130])) (AV.im (D.sl true 5 [exD d130])))
                   (S.optZ (S.lentS cs (SF [S.Hm.any]) 195 [AV.ptr 0 0 0,AV.im (D.int .i64 (1:Int))] (FHp d129.2.1)) fun (d131:(D × Unit) × FX × Unit) =>
                    S.optZ (S.stDec EX d131.1.1) fun (d132:EXT) =>
                     cond (S.eqA (AV.im (D.sl true 5 [exD d130])) (AV.im (D.sl true 5 [exD d130])))
                      (cond (S.eqA (AV.im (D.sl true 5 [exD d130])) (AV.im (D.sl true 5 [exD d130])))
                       (some (((D.agg [D.int .i64 (3:Int),D.int .i64 v3_43,D.str d128,D.str [104],D.sl false 5 [exD d130,exD d132],D.sl false 7 [],D.sl false 7 []],()),(FTp d131.2.1),())))
                       (none))
                      (none))
                   (none))
                  (some (((D.agg [D.int .i64 (3:Int),D.int .i64 v3_43,D.str d128,D.str [103],D.sl false 5 [exD d130],D.sl false 7 [],D.sl false 7 []],()),(FTp d129.2.1),()))))
             (none))
            (none))
         (cond (v3_1 == (10:Int))
          (some (((D.agg [D.int .i64 (6:Int),D.int .i64 v3_43,D.str [],D.str [],D.sl false 5 [],D.sl false 7 [],D.sl false 7 []],()),(v3_37,v3_38,v3_39,v3_40,v3_41,v3_42,v3_3,()),())))
          (cond (v3_1 == (11:Int))
           (some (((D.agg [D.int .i64 (7:Int),D.int .i64 v3_43,D.str [],D.str [],D.sl false 5 [],D.sl false 7 [],D.sl false 7 []],()),(v3_37,v3_38,v3_39,v3_40,v3_41,v3_42,v3_3,()),())))
           (cond (v3_1 == (12:Int))
            (S.optZ (S.lentS cs (SF [S.Hm.any]) 195 [AV.ptr 0 0 0,AV.im (D.int .i64 (2:Int))] [some (Blk.c 7 [D.agg [D.sl false 1 v3_37,D.int .i64 v3_38,v3_39,v3_40,D.int .i64 v3_41,D.int .i64 v3_42,D.bool v3_3]])]) fun (d133:(D × Unit) × FX × Unit) =>
             S.optZ (S.stDec EX d133.1.1) fun (d134:EXT) =>
              some (((D.agg [D.int .i64 (9:Int),D.int .i64 v3_43,D.str [],D.str [],D.sl false 5 [exD d134],D.sl false 7 [],D.sl false 7 []],()),(FTp d133.2.1),())))
            (cond (v3_1 == (13:Int))
             (S.optZ (S.lentS cs (SF [S.Hm.any]) 195 [AV.ptr 0 0 0,AV.im (D.int .i64 (1:Int))] [some (Blk.c 7 [D.agg [D.sl false 1 v3_37,D.int .i64 v3_38,v3_39,v3_40,D.int .i64 v3_41,D.int .i64 v3_42,D.bool v3_3]])]) fun (d135:(D × Unit) × FX × Unit) =>
              S.optZ (S.stDec EX d135.1.1) fun (d136:EXT) =>
               some (((D.agg [D.int .i64 (8:Int),D.int .i64 v3_43,D.str [],D.str [],D.sl false 5 [exD d136],D.sl false 7 [],D.sl false 7 []],()),(FTp d135.2.1),())))
             (S.optZ (D.asSl 1 v3_39) fun (d137:List D) =>
              S.optZ (D.asSl 1 v3_39) fun (d138:List D) =>
               cond (decide ((↑(List.length d138) : Int) ≠ (0:Int)))
                (cond (decide ((0:Int) ≤ Int.tmod (IntKind.wrap .i64 (Int.tdiv v3_0 (16:Int))) (↑(List.length d138) : Int)))
                 (S.optZ (d137[Int.toNat (Int.tmod (IntKind.wrap .i64 (Int.tdiv v3_0 (16:Int))) (↑(List.length d138) : Int))]?) fun (d139:D) =>
                  S.optZ (D.asStr d139) fun (d140:List UInt8) =>
                   S.optZ (S.lentS cs (SF [S.Hm.any]) 195 [AV.ptr 0 0 0,AV.im (D.int .i64 (2:Int))] [some (Blk.c 7 [D.agg [D.sl false 1 v3_37,D.int .i64 v3_38,v3_39,v3_40,D.int .i64 v3_41,D.int .i64 v3_42,D.bool v3_3]])]) fun (d141:(D × Unit) × FX × Unit) =>
                    S.optZ (S.stDec EX d141.1.1) fun (d142:EXT) =>
                     some (((D.agg [D.int .i64 (0:Int),D.int .i64 v3_43,D.str d140,D.str [],D.sl false 5 [exD d142],D.sl false 7 [],D.sl false 7 []],()),(FTp d141.2.1),())))
                 (none))
                (none))))))))
       (cond (v3_1 == (8:Int))
        (S.optZ (S.lentS cs (SF [S.Hm.any]) 195 [AV.ptr 0 0 0,AV.im (D.int .i64 (2:Int))] [some (Blk.c 7 [D.agg [D.sl false 1 v3_37,D.int .i64 v3_38,v3_39,v3_40,D.int .i64 v3_41,D.int .i64 v3_42,D.bool v3_3]])]) fun (d143:(D × Unit) × FX × Unit) =>
         S.optZ (S.stDec EX d143.1.1) fun (d144:EXT) =>
          S.optZ (S.lentS cs (SF [S.Hm.sl 7]) 96 [AV.ptr 0 0 0,AV.im (D.int .i64 (IntKind.wrap .i64 (b - (1:Int)))),AV.im (D.int .i64 (3:Int)),AV.im (D.bool true)] (FHp d143.2.1)) fun (d145:(List D × Unit) × FX × Unit) =>
           some (((D.agg [D.int .i64 (5:Int),D.int .i64 v3_43,D.str [],D.str [],D.sl false 5 [exD d144],D.sl false 7 d145.1.1,D.sl false 7 []],()),(FTp d145.2.1),())))
        (cond (v3_1 == (9:Int))
         (S.optZ (D.asSl 1 v3_39) fun (d146:List D) =>
          S.optZ (D.asSl 1 v3_39) fun (d147:List D) =>
           cond (decide ((↑(List.length d147) : Int) ≠ (0:Int)))
            (cond (decide ((0:Int) ≤ Int.tmod (IntKind.wrap .i64 (Int.tdiv v3_0 (16:Int))) (↑(List.length d147) : Int)))
             (S.optZ (d146[Int.toNat (Int.tmod (IntKind.wrap .i64 (Int.tdiv v3_0 (16:Int))) (↑(List.length d147) : Int))]?) fun (d148:D) =>
              S.optZ (D.asStr d148) fun (d149:List UInt8) =>
               S.optZ (S.lentS cs (SF [S.Hm.any]) 195 [AV.ptr 0 0 0,AV.im (D.int .i64 (1:Int))] [some (Blk.c 7 [D.agg [D.sl false 1 v3_37,D.int .i64 v3_38,v3_39,v3_40,D.int .i64 v3_41,D.int .i64 v3_42,D.bool v3_3]])]) fun (d150:(D × Unit) × FX × Unit) =>
                S.optZ (S.stDec EX d150.1.1) fun (d151:EXT) =>
                 cond (decide (Int.tmod v3_0 (32:Int) < (16:Int)))
                  (cond (S.eqA (AV.im (D.sl true 5 [exD d151])) (AV.im (D.sl true 5 [exD d151])))
                   (S.optZ (S.lentS cs (SF [S.Hm.any]) 195 [AV.ptr 0 0 0,AV.im (D.int .i64 (1:Int))] (FHp d150.2.1)) fun (d152:(D × Unit) × FX × Unit) =>
                    S.optZ (S.stDec EX d152.1.1) fun (d153:EXT) =>
                     cond (S.eqA (AV.im (D.sl true 5 [exD d151])) (AV.im (D.sl true 5 [exD d151])))
                      (cond (S.eqA (AV.im (D.sl true 5 [exD d151])) (AV.im (D.sl true 5 [exD d151])))
                       (some (((D.agg [D.int .i64 (3:Int),D.int .i64 v3_43,D.str d149,D.str [104],D.sl false 5 [exD d151,exD d153],D.sl false 7 [],D.sl false 7 []],()),(FTp d152.2.1),())))
                       (none))
                      (none))
                   (none))
                  (some (((D.agg [D.int .i64 (3:Int),D.int .i64 v3_43,D.str d149,D.str [103],D.sl false 5 [exD d151],D.sl false 7 [],D.sl false 7 []],()),(FTp d150.2.1),()))))
             (none))
            (none))
         (cond (v3_1 == (10:Int))
          (some (((D.agg [D.int .i64 (6:Int),D.int .i64 v3_43,D.str [],D.str [],D.sl false 5 [],D.sl false 7 [],D.sl false 7 []],()),(v3_37,v3_38,v3_39,v3_40,v3_41,v3_42,v3_3,()),())))
          (cond (v3_1 == (11:Int))
           (some (((D.agg [D.int .i64 (7:Int),D.int .i64 v3_43,D.str [],D.str [],D.sl false 5 [],D.sl false 7 [],D.sl false 7 []],()),(v3_37,v3_38,v3_39,v3_40,v3_41,v3_42,v3_3,()),())))
           (cond (v3_1 == (12:Int))
            (S.optZ (S.lentS cs (SF [S.Hm.any]) 195 [AV.ptr 0 0 0,AV.im (D.int .i64 (2:Int))] [some (Blk.c 7 [D.agg [D.sl false 1 v3_37,D.int .i64 v3_38,v3_39,v3_40,D.int .i64 v3_41,D.int .i64 v3_42,D.bool v3_3]])]) fun (d154:(D × Unit) × FX × Unit) =>
             S.optZ (S.stDec EX d154.1.1) fun (d155:EXT) =>
              some (((D.agg [D.int .i64 (9:Int),D.int .i64 v3_43,D.str [],D.str [],D.sl false 5 [exD d155],D.sl false 7 [],D.sl false 7 []],()),(FTp d154.2.1),())))
            (cond (v3_1 == (13:Int))
             (S.optZ (S.lentS cs (SF [S.Hm.any]) 195 [AV.ptr 0 0 0,AV.im (D.int .i64 (1:Int))] [some (Blk.c 7 [D.agg [D.sl false 1 v3_37,D.int .i64 v3_38,v3_39,v3_40,D.int .i64 v3_41,D.int .i64 v3_42,D.bool v3_3]])]) fun (d156:(D × Unit) × FX × Unit) =>
              S.optZ (S.stDec EX d156.1.1) fun (d157:EXT) =>
               some (((D.agg [D.int .i64 (8:Int),D.int .i64 v3_43,D.str [],D.str [],D.sl false 5 [exD d157],D.sl false 7 [],D.sl false 7 []],()),(FTp d156.2.1),())))
             (S.optZ (D.asSl 1 v3_39) fun (d158:List D) =>
              S.optZ (D.asSl 1 v3_39) fun (d159:List D) =>
               cond (decide ((↑(List.length d159) : Int) ≠ (0:Int)))
                (cond (decide ((0:Int) ≤ Int.tmod (IntKind.wrap .i64 (Int.tdiv v3_0 (16:Int))) (↑(List.length d159) : Int)))
                 (S.optZ (d158[Int.toNat (Int.tmod (IntKind.wrap .i64 (Int.tdiv v3_0 (16:Int))) (↑(List.length d159) : Int))]?) fun (d160:D) =>
                  S.optZ (D.asStr d160) fun (d161:List UInt8) =>
                   S.optZ (S.lentS cs (SF [S.Hm.any]) 195 [AV.ptr 0 0 0,AV.im (D.int .i64 (2:Int))] [some (Blk.c 7 [D.agg [D.sl false 1 v3_37,D.int .i64 v3_38,v3_39,v3_40,D.int .i64 v3_41,D.int .i64 v3_42,D.bool v3_3]])]) fun (d162:(D × Unit) × FX × Unit) =>
                    S.optZ (S.stDec EX d162.1.1) fun (d163:EXT) =>
                     some (((D.agg [D.int .i64 (0:Int),D.int .i64 v3_43,D.str d161,D.str [],D.sl false 5 [exD d163],D.sl false 7 [],D.sl false 7 []],()),(FTp d162.2.1),())))
                 (none))
                (none))))))))))
     (cond (v3_1 == (6:Int))
      (S.optZ (S.lentS cs (SF [S.Hm.any]) 195 [AV.ptr 0 0 0,AV.im (D.int .i64 (2:Int))] [some (Blk.c 7 [D.agg [D.sl false 1 v3_37,D.int .i64 v3_38,v3_39,v3_40,D.int .i64 v3_41,D.int .i64 v3_42,D.bool v3_3]])]) fun (d164:(D × Unit) × FX × Unit) =>
       S.optZ (S.stDec EX d164.1.1) fun (d165:EXT) =>
        S.optZ (S.lentS cs (SF [S.Hm.sl 7]) 96 [AV.ptr 0 0 0,AV.im (D.int .i64 (IntKind.wrap .i64 (b - (1:Int)))),AV.im (D.int .i64 (3:Int)),AV.im (D.bool c)] (FHp d164.2.1)) fun (d166:(List D × Unit) × FX × Unit) =>
         cond (decide (Int.tmod v3_0 (32:Int) < (16:Int)))
          (S.optZ (S.lentS cs (SF [S.Hm.sl 7]) 96 [AV.ptr 0 0 0,AV.im (D.int .i64 (IntKind.wrap .i64 (b - (1:Int)))),AV.im (D.int .i64 (2:Int)),AV.im (D.bool c)] (FHp d166.2.1)) fun (d167:(List D × Unit) × FX × Unit) =>
           some (((D.agg [D.int .i64 (4:Int),D.int .i64 v3_43,D.str [],D.str [],D.sl false 5 [exD d165],D.sl false 7 d166.1.1,D.sl false 7 d167.1.1],()),(FTp d167.2.1),())))
          (some (((D.agg [D.int .i64 (4:Int),D.int .i64 v3_43,D.str [],D.str [],D.sl false 5 [exD d165],D.sl false 7 d166.1.1,D.sl false 7 []],()),(FTp d166.2.1),()))))
      (cond (v3_1 == (7:Int))
       (cond (v3_1 == (7:Int))
        (S.optZ (S.lentS cs (SF [S.Hm.any]) 195 [AV.ptr 0 0 0,AV.im (D.int .i64 (2:Int))] [some (Blk.c 7 [D.agg [D.sl false 1 v3_37,D.int .i64 v3_38,v3_39,v3_40,D.int .i64 v3_41,D.int .i64 v3_42,D.bool v3_3]])]) fun (d168:(D × Unit) × FX × Unit) =>
         S.optZ (S.stDec EX d168.1.1) fun (d169:EXT) =>
          S.optZ (S.lentS cs (SF [S.Hm.sl 7]) 96 [AV.ptr 0 0 0,AV.im (D.int .i64 (IntKind.wrap .i64 (b - (1:Int)))),AV.im (D.int .i64 (3:Int)),AV.im (D.bool true)] (FHp d168.2.1)) fun (d170:(List D × Unit) × FX × Unit) =>
           some (((D.agg [D.int .i64 (5:Int),D.int .i64 v3_43,D.str [],D.str [],D.sl false 5 [exD d169],D.sl false 7 d170.1.1,D.sl false 7 []],()),(FTp d170.2.1),())))
        (cond (v3_1 == (9:Int))
         (S.optZ (D.asSl 1 v3_39) fun (d171:List D) =>
          S.optZ (D.asSl 1 v3_39) fun (d172:List D) =>
           cond (decide ((↑(List.length d172) : Int) ≠ (0:Int)))
            (cond (decide ((0:Int) ≤ Int.tmod (IntKind.wrap .i64 (Int.tdiv v3_0 (16:Int))) (↑(List.length d172) : Int)))
             (S.optZ (d171[Int.toNat (Int.tmod (IntKind.wrap .i64 (Int.tdiv v3_0 (16:Int))) (↑(List.length d172) : Int))]?) fun (d173:D) =>
              S.optZ (D.asStr d173) fun (d174:List UInt8) =>
               S.optZ (S.lentS cs (SF [S.Hm.any]) 195 [AV.ptr 0 0 0,AV.im (D.int .i64 (1:Int))] [some (Blk.c 7 [D.agg [D.sl false 1 v3_37,D.int .i64 v3_38,v3_39,v3_40,D.int .i64 v3_41,D.int .i64 v3_42,D.bool v3_3]])]) fun (d175:(D × Unit) × FX × Unit) =>
                S.optZ (S.stDec EX d175.1.1) fun (d176:EXT) =>
                 cond (decide (Int.tmod v3_0 (32:Int) < (16:Int)))
                  (cond (S.eqA (AV.im (D.sl true 5 [exD d176])) (AV.im (D.sl true 5 [exD d176])))
                   (S.optZ (S.lentS cs (SF [S.Hm.any]) 195 [AV.ptr 0 0 0,AV.im (D.int .i64 (1:Int))] (FHp d175.2.1)) fun (d177:(D × Unit) × FX × Unit) =>
                    S.optZ (S.stDec EX d177.1.1) fun (d178:EXT) =>
                     cond (S.eqA (AV.im (D.sl true 5 [exD d176])) (AV.im (D.sl true 5 [exD d176])))
                      (cond (S.eqA (AV.im (D.sl true 5 [exD d176])) (AV.im (D.sl true 5 [exD d176])))
                       (some (((D.agg [D.int .i64 (3:Int),D.int .i64 v3_43,D.str d174,D.str [104],D.sl false 5 [exD d176,exD d178],D.sl false 7 [],D.sl false 7 []],()),(FTp d177.2.1),())))
                       (none))
                      (none))
                   (none))
                  (some (((D.agg [D.int .i64 (3:Int),D.int .i64 v3_43,D.str d174,D.str [103],D.sl false 5 [exD d176],D.sl false 7 [],D.sl false 7 []],()),(FTp d175.2.1),()))))
             (none))
            (none))
         (cond (v3_1 == (10:Int))
          (some (((D.agg [D.int .i64 (6:Int),D.int .i64 v3_43,D.str [],D.str [],D.sl false 5 [],D.sl false 7 [],D.sl false 7 []],()),(v3_37,v3_38,v3_39,v3_40,v3_41,v3_42,v3_3,()),())))
          (cond (v3_1 == (11:Int))
           (some (((D.agg [D.int .i64 (7:Int),D.int .i64 v3_43,D.str [],D.str [],D.sl false 5 [],D.sl false 7 [],D.sl false 7 []],()),(v3_37,v3_38,v3_39,v3_40,v3_41,v3_42,v3_3,()),())))
           (cond (v3_1 == (12:Int))
            (S.optZ (S.lentS cs (SF [S.Hm.any]) 195 [AV.ptr 0 0 0,AV.im (D.int .i64 (2:Int))] [some (Blk.c 7 [D.agg [D.sl false 1 v3_37,D.int .i64 v3_38,v3_39,v3_40,D.int .i64 v3_41,D.int .i64 v3_42,D.bool v3_3]])]) fun (d179:(D × Unit) × FX × Unit) =>
             S.optZ (S.stDec EX d179.1.1) fun (d180:EXT) =>
              some (((D.agg [D.int .i64 (9:Int),D.int .i64 v3_43,D.str [],D.str [],D.sl false 5 [exD d180],D.sl false 7 [],D.sl false 7 []],()),(FTp d179.2.1),())))
            (cond (v3_1 == (13:Int))
             (S.optZ (S.lentS cs (SF [S.Hm.any]) 195 [AV.ptr 0 0 0,AV.im (D.int .i64 (1:Int))] [some (Blk.c 7 [D.agg [D.sl false 1 v3_37,D.int .i64 v3_38,v3_39,v3_40,D.int .i64 v3_41,D.int .i64 v3_42,D.bool v3_3]])]) fun (d181:(D × Unit) × FX × Unit) =>
              S.optZ (S.stDec EX d181.1.1) fun (d182:EXT) =>
               some (((D.agg [D.int .i64 (8:Int),D.int .i64 v3_43,D.str [],D.str [],D.sl false 5 [exD d182],D.sl false 7 [],D.sl false 7 []],()),(FTp d181.2.1),())))
             (S.optZ (D.asSl 1 v3_39) fun (d183:List D) =>
              S.optZ (D.asSl 1 v3_39) fun (d184:List D) =>
               cond (decide ((↑(List.length d184) : Int) ≠ (0:Int)))
                (cond (decide ((0:Int) ≤ Int.tmod (IntKind.wrap .i64 (Int.tdiv v3_0 (16:Int))) (↑(List.length d184) : Int)))
                 (S.optZ (d183[Int.toNat (Int.tmod (IntKind.wrap .i64 (Int.tdiv v3_0 (16:Int))) (↑(List.length d184) : Int))]?) fun (d185:D) =>
                  S.optZ (D.asStr d185) fun (d186:List UInt8) =>
                   S.optZ (S.lentS cs (SF [S.Hm.any]) 195 [AV.ptr 0 0 0,AV.im (D.int .i64 (2:Int))] [some (Blk.c 7 [D.agg [D.sl false 1 v3_37,D.int .i64 v3_38,v3_39,v3_40,D.int .i64 v3_41,D.int .i64 v3_42,D.bool v3_3]])]) fun (d187:(D × Unit) × FX × Unit) =>
                    S.optZ (S.stDec EX d187.1.1) fun (d188:EXT) =>
                     some (((D.agg [D.int .i64 (0:Int),D.int .i64 v3_43,D.str d186,D.str [],D.sl false 5 [exD d188],D.sl false 7 [],D.sl false 7 []],()),(FTp d187.2.1),())))
                 (none))
                (none))))))))
       (cond (v3_1 == (8:Int))
        (S.optZ (S.lentS cs (SF [S.Hm.any]) 195 [AV.ptr 0 0 0,AV.im (D.int .i64 (2:Int))] [some (Blk.c 7 [D.agg [D.sl false 1 v3_37,D.int .i64 v3_38,v3_39,v3_40,D.int .i64 v3_41,D.int .i64 v3_42,D.bool v3_3]])]) fun (d189:(D × Unit) × FX × Unit) =>
         S.optZ (S.stDec EX d189.1.1) fun (d190:EXT) =>
          S.optZ (S.lentS cs (SF [S.Hm.sl 7]) 96 [AV.ptr 0 0 0,AV.im (D.int .i64 (IntKind.wrap .i64 (b - (1:Int)))),AV.im (D.int .i64 (3:Int)),AV.im (D.bool true)] (FHp d189.2.1)) fun (d191:(List D × Unit) × FX × Unit) =>
           some (((D.agg [D.int .i64 (5:Int),D.int .i64 v3_43,D.str [],D.str [],D.sl false 5 [exD d190],D.sl false 7 d191.1.1,D.sl false 7 []],()),(FTp d191.2.1),())))
        (cond (v3_1 == (9:Int))
         (S.optZ (D.asSl 1 v3_39) fun (d192:List D) =>
          S.optZ (D.asSl 1 v3_39) fun (d193:List D) =>
           cond (decide ((↑(List.length d193) : Int) ≠ (0:Int)))
            (cond (decide ((0:Int) ≤ Int.tmod (IntKind.wrap .i64 (Int.tdiv v3_0 (16:Int))) (↑(List.length d193) : Int)))
             (S.optZ (d192[Int.toNat (Int.tmod (IntKind.wrap .i64 (Int.tdiv v3_0 (16:Int))) (↑(List.length d193) : Int))]?) fun (d194:D) =>
              S.optZ (D.asStr d194) fun (d195:List UInt8) =>
               S.optZ (S.lentS cs (SF [S.Hm.any]) 195 [AV.ptr 0 0 0,AV.im (D.int .i64 (1:Int))] [some (Blk.c 7 [D.agg [D.sl false 1 v3_37,D.int .i64 v3_38,v3_39,v3_40,D.int .i64 v3_41,D.int .i64 v3_42,D.bool v3_3]])]) fun (d196:(D × Unit) × FX × Unit) =>
                S.optZ (S.stDec EX d196.1.1) fun (d197:EXT) =>
                 cond (decide (Int.tmod v3_0 (32:Int) < (16:Int)))
                  (cond (S.eqA (AV.im (D.sl true 5 [exD d197])) (AV.im (D.sl true 5 [exD d197])))
                   (S.optZ (S.lentS cs (SF [S.Hm.any]) 195 [AV.ptr 0 0 0,AV.im (D.int .i64 (1:Int))] (FHp d196.2.1)) fun (d198:(D × Unit) × FX × Unit) =>
                    S.optZ (S.stDec EX d198.1.1) fun (d199:EXT) =>
                     cond (S.eqA (AV.im (D.sl true 5 [exD d197])) (AV.im (D.sl true 5 [exD d197])))
                      (cond (S.eqA (AV.im (D.sl true 5 [exD d197])) (AV.im (D.sl true 5 [exD d197])))
                       (some (((D.agg [D.int .i64 (3:Int),D.int .i64 v3_43,D.str d195,D.str [104],D.sl false 5 [exD d197,exD d199],D.sl false 7 [],D.sl false 7 []],()),(FTp d198.2.1),())))
                       (none))
                      (none))
                   (none))
                  (some (((D.agg [D.int .i64 (3:Int),D.int .i64 v3_43,D.str d195,D.str [103],D.sl false 5 [exD d197],D.sl false 7 [],D.sl false 7 []],()),(FTp d196.2.1),()))))
             (none))
            (none))
         (cond (v3_1 == (10:Int))
          (some (((D.agg [D.int .i64 (6:Int),D.int .i64 v3_43,D.str [],D.str [],D.sl false 5 [],D.sl false 7 [],D.sl false 7 []],()),(v3_37,v3_38,v3_39,v3_40,v3_41,v3_42,v3_3,()),())))
          (cond (v3_1 == (11:Int))
           (some (((D.agg [D.int .i64 (7:Int),D.int .i64 v3_43,D.str [],D.str [],D.sl false 5 [],D.sl false 7 [],D.sl false 7 []],()),(v3_37,v3_38,v3_39,v3_40,v3_41,v3_42,v3_3,()),())))
           (cond (v3_1 == (12:Int))
            (S.optZ (S.lentS cs (SF [S.Hm.any]) 195 [AV.ptr 0 0 0,AV.im (D.int .i64 (2:Int))] [some (Blk.c 7 [D.agg [D.sl false 1 v3_37,D.int .i64 v3_38,v3_39,v3_40,D.int .i64 v3_41,D.int .i64 v3_42,D.bool v3_3]])]) fun (d200:(D × Unit) × FX × Unit) =>
             S.optZ (S.stDec EX d200.1.1) fun (d201:EXT) =>
              some (((D.agg [D.int .i64 (9:Int),D.int .i64 v3_43,D.str [],D.str [],D.sl false 5 [exD d201],D.sl false 7 [],D.sl false 7 []],()),(FTp d200.2.1),())))
            (cond (v3_1 == (13:Int))
             (S.optZ (S.lentS cs (SF [S.Hm.any]) 195 [AV.ptr 0 0 0,AV.im (D.int .i64 (1:Int))] [some (Blk.c 7 [D.agg [D.sl false 1 v3_37,D.int .i64 v3_38,v3_39,v3_40,D.int .i64 v3_41,D.int .i64 v3_42,D.bool v3_3]])]) fun (d202:(D × Unit) × FX × Unit) =>
              S.optZ (S.stDec EX d202.1.1) fun (d203:EXT) =>
               some (((D.agg [D.int .i64 (8:Int),D.int .i64 v3_43,D.str [],D.str [],D.sl false 5 [exD d203],D.sl false 7 [],D.sl false 7 []],()),(FTp d202.2.1),())))
             (S.optZ (D.asSl 1 v3_39) fun (d204:List D) =>
              S.optZ (D.asSl 1 v3_39) fun (d205:List D) =>
               cond (decide ((↑(List.length d205) : Int) ≠ (0:Int)))
                (cond (decide ((0:Int) ≤ Int.tmod (IntKind.wrap .i64 (Int.tdiv v3_0 (16:Int))) (↑(List.length d205) : Int)))
                 (S.optZ (d204[Int.toNat (Int.tmod (IntKind.wrap .i64 (Int.tdiv v3_0 (16:Int))) (↑(List.length d205) : Int))]?) fun (d206:D) =>
                  S.optZ (D.asStr d206) fun (d207:List UInt8) =>
                   S.optZ (S.lentS cs (SF [S.Hm.any]) 195 [AV.ptr 0 0 0,AV.im (D.int .i64 (2:Int))] [some (Blk.c 7 [D.agg [D.sl false 1 v3_37,D.int .i64 v3_38,v3_39,v3_40,D.int .i64 v3_41,D.int .i64 v3_42,D.bool v3_3]])]) fun (d208:(D × Unit) × FX × Unit) =>
                    S.optZ (S.stDec EX d208.1.1) fun (d209:EXT) =>
                     some (((D.agg [D.int .i64 (0:Int),D.int .i64 v3_43,D.str d207,D.str [],D.sl false 5 [exD d209],D.sl false 7 [],D.sl false 7 []],()),(FTp d208.2.1),())))
                 (none))
                (none)))))))))))))
theorem F152_3_eq (cs:Oracle) (lf:Nat) (b:Int) (c:Bool) (l:List D) (t:Int) (n r:D) (e g:Int) (m:Bool) (v3_0 v3_1 v3_2:Int) (v3_3 v3_4:Bool) (v3_5 v3_6:AV) (v3_7:Bool) (v3_8 v3_9 v3_10 v3_11 v3_12:AV) (v3_13:Bool) (v3_14 v3_15 v3_16 v3_17 v3_18 v3_19 v3_20 v3_21 v3_22 v3_23 v3_24 v3_25 v3_26 v3_27:AV) (v3_28 v3_29:Bool) (v3_30 v3_31 v3_32 v3_33 v3_34 v3_35:AV) (v3_36:Bool) (v3_37:List D) (v3_38:Int) (v3_39 v3_40:D) (v3_41 v3_42 v3_43:Int) : S.execZQ (X152 cs) SG lf c152_3 (E152_3 b c l t n r e g m v3_0 v3_1 v3_2 v3_3 v3_4 v3_5 v3_6 v3_7 v3_8 v3_9 v3_10 v3_11 v3_12 v3_13 v3_14 v3_15 v3_16 v3_17 v3_18 v3_19 v3_20 v3_21 v3_22 v3_23 v3_24 v3_25 v3_26 v3_27 v3_28 v3_29 v3_30 v3_31 v3_32 v3_33 v3_34 v3_35 v3_36 v3_37 v3_38 v3_39 v3_40 v3_41 v3_42 v3_43) (H152_3 b c l t n r e g m v3_0 v3_1 v3_2 v3_3 v3_4 v3_5 v3_6 v3_7 v3_8 v3_9 v3_10 v3_11 v3_12 v3_13 v3_14 v3_15 v3_16 v3_17 v3_18 v3_19 v3_20 v3_21 v3_22 v3_23 v3_24 v3_25 v3_26 v3_27 v3_28 v3_29 v3_30 v3_31 v3_32 v3_33 v3_34 v3_35 v3_36 v3_37 v3_38 v3_39 v3_40 v3_41 v3_42 v3_43) K152 = F152_3 cs lf b c l t n r e g m v3_0 v3_1 v3_2 v3_3 v3_4 v3_5 v3_6 v3_7 v3_8 v3_9 v3_10 v3_11 v3_12 v3_13 v3_14 v3_15 v3_16 v3_17 v3_18 v3_19 v3_20 v3_21 v3_22 v3_23 v3_24 v3_25 v3_26 v3_27 v3_28 v3_29 v3_30 v3_31 v3_32 v3_33 v3_34 v3_35 v3_36 v3_37 v3_38 v3_39 v3_40 v3_41 v3_42 v3_43:=by
 kernel_rfl
noncomputable def F152_2 (cs:Oracle) (lf:Nat) (b:Int) (c:Bool) (l:List D) (t:Int) (n r:D) (e g:Int) (m:Bool) (v2_0 v2_1 v2_2:Int) (v2_3 v2_4:Bool) (v2_5 v2_6:AV) (v2_7:Bool) (v2_8 v2_9 v2_10 v2_11 v2_12:AV) (v2_13:Bool) (v2_14 v2_15 v2_16 v2_17 v2_18 v2_19 v2_20 v2_21 v2_22 v2_23 v2_24 v2_25 v2_26 v2_27:AV) (v2_28:Bool) (v2_29:List D) (v2_30:Int) (v2_31 v2_32:D) (v2_33 v2_34 v2_35:Int) : Option (S.Hms.T [.any] × FB):=G152_2 cs lf b c l t n r e g m v2_0 v2_1 v2_2 v2_3 v2_4 v2_5 v2_6 v2_7 v2_8 v2_9 v2_10 v2_11 v2_12 v2_13 v2_14 v2_15 v2_16 v2_17 v2_18 v2_19 v2_20 v2_21 v2_22 v2_23 v2_24 v2_25 v2_26 v2_27 v2_28 v2_29 v2_30 v2_31 v2_32 v2_33 v2_34 v2_35 (fun v3_0 v3_1 v3_2 v3_3 v3_4 v3_5 v3_6 v3_7 v3_8 v3_9 v3_10 v3_11 v3_12 v3_13 v3_14 v3_15 v3_16 v3_17 v3_18 v3_19 v3_20 v3_21 v3_22 v3_23 v3_24 v3_25 v3_26 v3_27 v3_28 v3_29 v3_30 v3_31 v3_32 v3_33 v3_34 v3_35 v3_36 v3_37 v3_38 v3_39 v3_40 v3_41 v3_42 v3_43=>F152_3 cs lf b c l t n r e g m v3_0 v3_1 v3_2 v3_3 v3_4 v3_5 v3_6 v3_7 v3_8 v3_9 v3_10 v3_11 v3_12 v3_13 v3_14 v3_15 v3_16 v3_17 v3_18 v3_19 v3_20 v3_21 v3_22 v3_23 v3_24 v3_25 v3_26 v3_27 v3_28 v3_29 v3_30 v3_31 v3_32 v3_33 v3_34 v3_35 v3_36 v3_37 v3_38 v3_39 v3_40 v3_41 v3_42 v3_43)
theorem F152_2_eq (cs:Oracle) (lf:Nat) (b:Int) (c:Bool) (l:List D) (t:Int) (n r:D) (e g:Int) (m:Bool) (v2_0 v2_1 v2_2:Int) (v2_3 v2_4:Bool) (v2_5 v2_6:AV) (v2_7:Bool) (v2_8 v2_9 v2_10 v2_11 v2_12:AV) (v2_13:Bool) (v2_14 v2_15 v2_16 v2_17 v2_18 v2_19 v2_20 v2_21 v2_22 v2_23 v2_24 v2_25 v2_26 v2_27:AV) (v2_28:Bool) (v2_29:List D) (v2_30:Int) (v2_31 v2_32:D) (v2_33 v2_34 v2_35:Int) : S.execZQ (X152 cs) SG lf c152_2 (E152_2 b c l t n r e g m v2_0 v2_1 v2_2 v2_3 v2_4 v2_5 v2_6 v2_7 v2_8 v2_9 v2_10 v2_11 v2_12 v2_13 v2_14 v2_15 v2_16 v2_17 v2_18 v2_19 v2_20 v2_21 v2_22 v2_23 v2_24 v2_25 v2_26 v2_27 v2_28 v2_29 v2_30 v2_31 v2_32 v2_33 v2_34 v2_35) (H152_2 b c l t n r e g m v2_0 v2_1 v2_2 v2_3 v2_4 v2_5 v2_6 v2_7 v2_8 v2_9 v2_10 v2_11 v2_12 v2_13 v2_14 v2_15 v2_16 v2_17 v2_18 v2_19 v2_20 v2_21 v2_22 v2_23 v2_24 v2_25 v2_26 v2_27 v2_28 v2_29 v2_30 v2_31 v2_32 v2_33 v2_34 v2_35) K152 = F152_2 cs lf b c l t n r e g m v2_0 v2_1 v2_2 v2_3 v2_4 v2_5 v2_6 v2_7 v2_8 v2_9 v2_10 v2_11 v2_12 v2_13 v2_14 v2_15 v2_16 v2_17 v2_18 v2_19 v2_20 v2_21 v2_22 v2_23 v2_24 v2_25 v2_26 v2_27 v2_28 v2_29 v2_30 v2_31 v2_32 v2_33 v2_34 v2_35:=by
 have h:=G152_2_eq cs lf b c l t n r e g m v2_0 v2_1 v2_2 v2_3 v2_4 v2_5 v2_6 v2_7 v2_8 v2_9 v2_10 v2_11 v2_12 v2_13 v2_14 v2_15 v2_16 v2_17 v2_18 v2_19 v2_20 v2_21 v2_22 v2_23 v2_24 v2_25 v2_26 v2_27 v2_28 v2_29 v2_30 v2_31 v2_32 v2_33 v2_34 v2_35 (S.getC c152_2 [1])
 rw [S.put_get] at h
 refine h.trans ?_
 unfold F152_2
 refine congrArg (G152_2 cs lf b c l t n r e g m v2_0 v2_1 v2_2 v2_3 v2_4 v2_5 v2_6 v2_7 v2_8 v2_9 v2_10 v2_11 v2_12 v2_13 v2_14 v2_15 v2_16 v2_17 v2_18 v2_19 v2_20 v2_21 v2_22 v2_23 v2_24 v2_25 v2_26 v2_27 v2_28 v2_29 v2_30 v2_31 v2_32 v2_33 v2_34 v2_35) ?_
 funext v3_0 v3_1 v3_2 v3_3 v3_4 v3_5 v3_6 v3_7 v3_8 v3_9 v3_10 v3_11 v3_12 v3_13 v3_14 v3_15 v3_16 v3_17 v3_18 v3_19 v3_20 v3_21 v3_22 v3_23 v3_24 v3_25 v3_26 v3_27 v3_28 v3_29 v3_30 v3_31 v3_32 v3_33 v3_34 v3_35 v3_36 v3_37 v3_38 v3_39 v3_40 v3_41 v3_42 v3_43
 exact F152_3_eq cs lf b c l t n r e g m v3_0 v3_1 v3_2 v3_3 v3_4 v3_5 v3_6 v3_7 v3_8 v3_9 v3_10 v3_11 v3_12 v3_13 v3_14 v3_15 v3_16 v3_17 v3_18 v3_19 v3_20 v3_21 v3_22 v3_23 v3_24 v3_25 v3_26 v3_27 v3_28 v3_29 v3_30 v3_31 v3_32 v3_33 v3_34 v3_35 v3_36 v3_37 v3_38 v3_39 v3_40 v3_41 v3_42 v3_43
noncomputable def F152_1 (cs:Oracle) (lf:Nat) (b:Int) (c:Bool) (l:List D) (t:Int) (n r:D) (e g:Int) (m:Bool) (v1_0 v1_1:Int) (v1_2 v1_3:Bool) (v1_4 v1_5:AV) (v1_6:Bool) (v1_7 v1_8 v1_9 v1_10 v1_11:AV) (v1_12:List D) (v1_13:Int) (v1_14 v1_15:D) (v1_16 v1_17 v1_18:Int) : Option (S.Hms.T [.any] × FB):=G152_1 cs lf b c l t n r e g m v1_0 v1_1 v1_2 v1_3 v1_4 v1_5 v1_6 v1_7 v1_8 v1_9 v1_10 v1_11 v1_12 v1_13 v1_14 v1_15 v1_16 v1_17 v1_18 (fun v2_0 v2_1 v2_2 v2_3 v2_4 v2_5 v2_6 v2_7 v2_8 v2_9 v2_10 v2_11 v2_12 v2_13 v2_14 v2_15 v2_16 v2_17 v2_18 v2_19 v2_20 v2_21 v2_22 v2_23 v2_24 v2_25 v2_26 v2_27 v2_28 v2_29 v2_30 v2_31 v2_32 v2_33 v2_34 v2_35=>F152_2 cs lf b c l t n r e g m v2_0 v2_1 v2_2 v2_3 v2_4 v2_5 v2_6 v2_7 v2_8 v2_9 v2_10 v2_11 v2_12 v2_13 v2_14 v2_15 v2_16 v2_17 v2_18 v2_19 v2_20 v2_21 v2_22 v2_23 v2_24 v2_25 v2_26 v2_27 v2_28 v2_29 v2_30 v2_31 v2_32 v2_33 v2_34 v2_35)
theorem F152_1_eq (cs:Oracle) (lf:Nat) (b:Int) (c:Bool) (l:List D) (t:Int) (n r:D) (e g:Int) (m:Bool) (v1_0 v1_1:Int) (v1_2 v1_3:Bool) (v1_4 v1_5:AV) (v1_6:Bool) (v1_7 v1_8 v1_9 v1_10 v1_11:AV) (v1_12:List D) (v1_13:Int) (v1_14 v1_15:D) (v1_16 v1_17 v1_18:Int) : S.execZQ (X152 cs) SG lf c152_1 (E152_1 b c l t n r e g m v1_0 v1_1 v1_2 v1_3 v1_4 v1_5 v1_6 v1_7 v1_8 v1_9 v1_10 v1_11 v1_12 v1_13 v1_14 v1_15 v1_16 v1_17 v1_18) (H152_1 b c l t n r e g m v1_0 v1_1 v1_2 v1_3 v1_4 v1_5 v1_6 v1_7 v1_8 v1_9 v1_10 v1_11 v1_12 v1_13 v1_14 v1_15 v1_16 v1_17 v1_18) K152 = F152_1 cs lf b c l t n r e g m v1_0 v1_1 v1_2 v1_3 v1_4 v1_5 v1_6 v1_7 v1_8 v1_9 v1_10 v1_11 v1_12 v1_13 v1_14 v1_15 v1_16 v1_17 v1_18:=by
 have h:=G152_1_eq cs lf b c l t n r e g m v1_0 v1_1 v1_2 v1_3 v1_4 v1_5 v1_6 v1_7 v1_8 v1_9 v1_10 v1_11 v1_12 v1_13 v1_14 v1_15 v1_16 v1_17 v1_18 (S.getC c152_1 [1])
 rw [S.put_get] at h
 refine h.trans ?_
 unfold F152_1
 refine congrArg (G152_1 cs lf b c l t n r e g m v1_0 v1_1 v1_2 v1_3 v1_4 v1_5 v1_6 v1_7 v1_8 v1_9 v1_10 v1_11 v1_12 v1_13 v1_14 v1_15 v1_16 v1_17 v1_18) ?_
 funext v2_0 v2_1 v2_2 v2_3 v2_4 v2_5 v2_6 v2_7 v2_8 v2_9 v2_10 v2_11 v2_12 v2_13 v2_14 v2_15 v2_16 v2_17 v2_18 v2_19 v2_20 v2_21 v2_22 v2_23 v2_24 v2_25 v2_26 v2_27 v2_28 v2_29 v2_30 v2_31 v2_32 v2_33 v2_34 v2_35
 exact F152_2_eq cs lf b c l t n r e g m v2_0 v2_1 v2_2 v2_3 v2_4 v2_5 v2_6 v2_7 v2_8 v2_9 v2_10 v2_11 v2_12 v2_13 v2_14 v2_15 v2_16 v2_17 v2_18 v2_19 v2_20 v2_21 v2_22 v2_23 v2_24 v2_25 v2_26 v2_27 v2_28 v2_29 v2_30 v2_31 v2_32 v2_33 v2_34 v2_35
noncomputable def F152_0 (cs:Oracle) (lf:Nat) (b:Int) (c:Bool) (l:List D) (t:Int) (n r:D) (e g:Int) (m:Bool)  : Option (S.Hms.T [.any] × FB):=G152_0 cs lf b c l t n r e g m  (fun v1_0 v1_1 v1_2 v1_3 v1_4 v1_5 v1_6 v1_7 v1_8 v1_9 v1_10 v1_11 v1_12 v1_13 v1_14 v1_15 v1_16 v1_17 v1_18=>F152_1 cs lf b c l t n r e g m v1_0 v1_1 v1_2 v1_3 v1_4 v1_5 v1_6 v1_7 v1_8 v1_9 v1_10 v1_11 v1_12 v1_13 v1_14 v1_15 v1_16 v1_17 v1_18)
theorem F152_0_eq (cs:Oracle) (lf:Nat) (b:Int) (c:Bool) (l:List D) (t:Int) (n r:D) (e g:Int) (m:Bool)  : S.bodyS T SG cs fi152 lf [.ptr 0 0 0,.im (.int .i64 b),.im (.bool c)] [some (.c 7 [.agg [.sl false 1 l,.int .i64 t,n,r,.int .i64 e,.int .i64 g,.bool m]])] (S.endS ⟨[.any],[.c [.sl 1,.int .i64,.any,.any,.int .i64,.int .i64,.bool]]⟩) = F152_0 cs lf b c l t n r e g m :=by
 have h:=G152_0_eq cs lf b c l t n r e g m  (S.getC fi152.code [1,1,1,1,1])
 rw [S.put_get] at h
 refine h.trans ?_
 unfold F152_0
 refine congrArg (G152_0 cs lf b c l t n r e g m ) ?_
 funext v1_0 v1_1 v1_2 v1_3 v1_4 v1_5 v1_6 v1_7 v1_8 v1_9 v1_10 v1_11 v1_12 v1_13 v1_14 v1_15 v1_16 v1_17 v1_18
 exact F152_1_eq cs lf b c l t n r e g m v1_0 v1_1 v1_2 v1_3 v1_4 v1_5 v1_6 v1_7 v1_8 v1_9 v1_10 v1_11 v1_12 v1_13 v1_14 v1_15 v1_16 v1_17 v1_18
noncomputable def F152 (cs:Oracle) (lf:Nat) (b:Int) (c:Bool) (l:List D) (t:Int) (n r:D) (e g:Int) (m:Bool) : Option (S.Hms.T [.any] × FB):=F152_0 cs lf b c l t n r e g m
theorem F152_eq (cs:Oracle) (lf:Nat) (b:Int) (c:Bool) (l:List D) (t:Int) (n r:D) (e g:Int) (m:Bool) : S.bodyS T SG cs fi152 lf [.ptr 0 0 0,.im (.int .i64 b),.im (.bool c)] [some (.c 7 [.agg [.sl false 1 l,.int .i64 t,n,r,.int .i64 e,.int .i64 g,.bool m]])] (S.endS ⟨[.any],[.c [.sl 1,.int .i64,.any,.any,.int .i64,.int .i64,.bool]]⟩) = F152 cs lf b c l t n r e g m:=F152_0_eq cs lf b c l t n r e g m
theorem fi152_ok : fi152.ok Tryz.prog 152:=⟨Tryz.func152,by decide,rfl,by rfl⟩
end Go.Proofs.YtkinbnepkpoofaaGreatDoor