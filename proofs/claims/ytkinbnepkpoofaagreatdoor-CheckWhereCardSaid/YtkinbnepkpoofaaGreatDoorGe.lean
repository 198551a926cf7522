/- Texts joined into one: Inl5 Ab5 F5. -/
import Derived.Test.YtkinbnepkpoofaaGreatDoorGa
/- Functions that are run where they are called. -/
set_option linter.unusedVariables false
set_option maxRecDepth 100000
open Go Go.AM
namespace Go.Proofs.YtkinbnepkpoofaaGreatDoor
noncomputable def ii16 : Fi:=mkFi T Tryz.f16 { lend:=isIn [49] }
theorem ii16_ok : ii16.ok Tryz.prog 16:=⟨Tryz.func16,by decide,rfl,by rfl⟩
noncomputable def ii49 : Fi:=mkFi T Tryz.f49 { own:=isIn [50],lend:=isIn [96] }
theorem ii49_ok : ii49.ok Tryz.prog 49:=⟨Tryz.func49,by decide,rfl,by rfl⟩
noncomputable def inlL5 : List (Nat × Fi):=[(16,ii16),(49,ii49)]
noncomputable def inlF5 : FuncId → Option Fi:=lookL inlL5
noncomputable def SGJ {β:Type} (cs:Oracle) : S.Sgs β:=S.inlS T (rsT T) (lookL hsL) cs inlF5 12 4
theorem SGJ_ok {β:Type} {B:S.BookM} (hT:B.T = T) (h:∀ p ∈ inlL5,B.fi p.1 = some p.2 ∧ B.known p.1 = none ∧ ∀ xs,B.norm p.1 xs = xs) (r:β) : (SGJ (β:=β) (S.sem B)).Ok (S.sem B) r:=by
 have:=S.inlS_ok (β:=β) (T:=B.T) (ty:=rsT T) (fn:=lookL hsL) (S.sem_apart B) (S.inl_sem (B:=B) (inl:=inlF5) (lf:=12) fun g i hi=>h (g,i) (lookL_mem hi)) 4 r
 rw [hT] at this
 exact this
end Go.Proofs.YtkinbnepkpoofaaGreatDoor
/- A word for what CheckWhere adds. -/
namespace Go.Proofs.YtkinbnepkpoofaaGreatDoor
open Go Go.AM
abbrev ctD : D:=.agg [.int .i64 7,.int .i64 0,.str [],.str [],.sl true 0 [],.sl true 0 [],.sl true 0 []]
end Go.Proofs.YtkinbnepkpoofaaGreatDoor
/- billhook/billhooklaw05.CheckWhere: what it comes to. -/
set_option maxHeartbeats 0
open Go Go.AM
namespace Go.Proofs.YtkinbnepkpoofaaGreatDoor
noncomputable def fi5 : Fi:=mkFi T Tryz.f5 { live:=fun d=>if Nat.beq d 9 then slots 95 [9,10,11,12,13] else none,keep:=isIn [100012],lend:=isIn [16] }
noncomputable abbrev X5 (cs:Oracle) : Px:=fi5.px T cs 0
noncomputable abbrev K5 : S.Kq (S.Hms.T [.bool]):=S.finZ T fi5 0 (S.endP [.bool])
noncomputable def F5 (cs:Oracle) (lf:Nat) (a0:List D) (a1:Bool) (a2 a3:List D) (b c d:Bool) : Option (S.Hms.T [.bool]) :=
 S.optZ (S.pureS cs [S.Hm.bool] 15 []) fun (d1:Bool × Unit) =>
  cond (!d1.1)
   (some ((false,())))
   (cond (decide ((0:Int) ≤ IntKind.wrap .i64 (Int.tdiv (↑(List.length (a3)) : Int) (2:Int))))
    (cond (decide (IntKind.wrap .i64 (Int.tdiv (↑(List.length (a3)) : Int) (2:Int)) ≤ (↑(List.length (a3)) : Int)))
     (S.optZ (S.lentS cs (SF [S.Hm.sl 7]) 96 [AV.ptr 0 0 0,AV.im (D.int .i64 (1:Int)),AV.im (D.int .i64 (4:Int)),AV.im (D.bool false)] [some (Blk.c 7 [D.agg [D.sl false 1 a3,D.int .i64 (0:Int),D.sl true 1 [D.str [112],D.str [114]],D.sl true 1 [D.str [122,115]],D.int .i64 (4:Int),D.int .i64 (0:Int),D.bool false]])]) fun (d2:(List D × Unit) × FX × Unit) =>
      S.optZ (S.lentS cs (SF [S.Hm.sl 7]) 96 [AV.ptr 0 0 0,AV.im (D.int .i64 (1:Int)),AV.im (D.int .i64 (3:Int)),AV.im (D.bool false)] [some (Blk.c 7 [D.agg [D.sl false 1 (List.drop (Int.toNat (IntKind.wrap .i64 (Int.tdiv (↑(List.length (a3)) : Int) (2:Int)))) (List.take (List.length (a3)) (a3))),D.int .i64 (0:Int),D.sl true 1 [D.str [112],D.str [113]],D.sl true 1 [D.str [122,115]],D.int .i64 (3:Int),D.int .i64 (0:Int),D.bool false]])]) fun (d3:(List D × Unit) × FX × Unit) =>
       S.optZ (S.lentS cs (SF [S.Hm.sl 7]) 96 [AV.ptr 0 0 0,AV.im (D.int .i64 (2:Int)),AV.im (D.int .i64 (14:Int)),AV.im (D.bool false)] [some (Blk.c 7 [D.agg [D.sl false 1 a2,D.int .i64 (0:Int),D.sl true 1 [D.str [97],D.str [98],D.str [99],D.str [100]],D.sl true 1 [D.str [120,115],D.str [121,115]],D.int .i64 (24:Int),D.int .i64 (0:Int),D.bool true]])]) fun (d4:(List D × Unit) × FX × Unit) =>
        cond (d)
         (cond (S.eqA (AV.im (ctD)) (AV.im (ctD)))
          (cond (S.eqA (AV.im (D.sl true 7 [ctD])) (AV.im (D.sl true 7 [ctD])))
           (cond (List.all (List.map AV.im d4.1.1) fun (e:AV)=>e.cells.all okCell)
            (cond (decide (List.length ([] ++ d4.1.1) * 120 ≤ 140737488355328))
             (cond (decide (List.length ([] ++ d4.1.1) ≤ 140737488355328))
              (cond (S.eqA (AV.im (ctD)) (AV.im (ctD)))
               (cond (S.eqA (AV.im (D.sl true 7 [ctD])) (AV.im (D.sl true 7 [ctD])))
                (cond (decide (List.length (List.take (List.length ([] ++ d4.1.1)) (List.drop 0 ([] ++ d4.1.1)) ++ [ctD]) * 120 ≤ 140737488355328))
                 (cond (decide (List.length (List.take (List.length ([] ++ d4.1.1)) (List.drop 0 ([] ++ d4.1.1)) ++ [ctD]) ≤ 140737488355328))
                  (cond (c)
                   (cond (S.eqA (AV.im (ctD)) (AV.im (ctD)))
                    (cond (S.eqA (AV.im (D.sl true 7 [ctD])) (AV.im (D.sl true 7 [ctD])))
                     (cond (List.all (List.map AV.im d3.1.1) fun (e:AV)=>e.cells.all okCell)
                      (cond (decide (List.length ([] ++ d3.1.1) * 120 ≤ 140737488355328))
                       (cond (decide (List.length ([] ++ d3.1.1) ≤ 140737488355328))
                        (cond (S.eqA (AV.im (ctD)) (AV.im (ctD)))
                         (cond (S.eqA (AV.im (D.sl true 7 [ctD])) (AV.im (D.sl true 7 [ctD])))
                          (cond (decide (List.length (List.take (List.length ([] ++ d3.1.1)) (List.drop 0 ([] ++ d3.1.1)) ++ [ctD]) * 120 ≤ 140737488355328))
                           (cond (decide (List.length (List.take (List.length ([] ++ d3.1.1)) (List.drop 0 ([] ++ d3.1.1)) ++ [ctD]) ≤ 140737488355328))
                            (cond (b)
                             (cond (S.eqA (AV.im (ctD)) (AV.im (ctD)))
                              (cond (S.eqA (AV.im (D.sl true 7 [ctD])) (AV.im (D.sl true 7 [ctD])))
                               (cond (List.all (List.map AV.im d2.1.1) fun (e:AV)=>e.cells.all okCell)
                                (cond (decide (List.length ([] ++ d2.1.1) * 120 ≤ 140737488355328))
                                 (cond (decide (List.length ([] ++ d2.1.1) ≤ 140737488355328))
                                  (cond (S.eqA (AV.im (ctD)) (AV.im (ctD)))
                                   (cond (S.eqA (AV.im (D.sl true 7 [ctD])) (AV.im (D.sl true 7 [ctD])))
                                    (cond (decide (List.length (List.take (List.length ([] ++ d2.1.1)) (List.drop 0 ([] ++ d2.1.1)) ++ [ctD]) * 120 ≤ 140737488355328))
                                     (cond (decide (List.length (List.take (List.length ([] ++ d2.1.1)) (List.drop 0 ([] ++ d2.1.1)) ++ [ctD]) ≤ 140737488355328))
                                      (S.optZ (S.plainS cs [S.Hm.int .i64,S.Hm.int .i64] 18 [AV.im (D.agg [D.sl false 4 [D.agg [D.str [103],D.sl true 1 [D.str [112]],D.sl true 2 [D.agg [D.str [114],D.int .i64 (0:Int)],D.agg [D.str [122,115],D.int .i64 (2:Int)]],D.sl false 7 (List.take (List.length (List.take (List.length ([] ++ d2.1.1)) (List.drop 0 ([] ++ d2.1.1)) ++ [ctD])) (List.drop 0 (List.take (List.length ([] ++ d2.1.1)) (List.drop 0 ([] ++ d2.1.1)) ++ [ctD])))],D.agg [D.str [104],D.sl true 1 [D.str [112],D.str [113]],D.sl true 2 [D.agg [D.str [122,115],D.int .i64 (1:Int)]],D.sl false 7 (List.take (List.length (List.take (List.length ([] ++ d3.1.1)) (List.drop 0 ([] ++ d3.1.1)) ++ [ctD])) (List.drop 0 (List.take (List.length ([] ++ d3.1.1)) (List.drop 0 ([] ++ d3.1.1)) ++ [ctD])))],D.agg [D.str [109,97,105,110],D.sl true 0 [],D.sl true 2 [D.agg [D.str [97],D.int .i64 (0:Int)],D.agg [D.str [98],D.int .i64 (0:Int)],D.agg [D.str [99],D.int .i64 (0:Int)],D.agg [D.str [100],D.int .i64 (0:Int)],D.agg [D.str [120,115],D.int .i64 (3:Int)],D.agg [D.str [121,115],D.int .i64 (5:Int)]],D.sl false 7 (List.take (List.length (List.take (List.length ([] ++ d4.1.1)) (List.drop 0 ([] ++ d4.1.1)) ++ [ctD])) (List.drop 0 (List.take (List.length ([] ++ d4.1.1)) (List.drop 0 ([] ++ d4.1.1)) ++ [ctD])))]]])]) fun (d5:Int × Int × Unit) =>
                                       S.optZ (S.plainS cs [S.Hm.int .i64,S.Hm.int .i64] 18 [AV.im (D.agg [D.sl false 4 [D.agg [D.str [103],D.sl true 1 [D.str [112]],D.sl true 2 [D.agg [D.str [114],D.int .i64 (0:Int)],D.agg [D.str [122,115],D.int .i64 (2:Int)]],D.sl false 7 (List.take (List.length (List.take (List.length ([] ++ d2.1.1)) (List.drop 0 ([] ++ d2.1.1)) ++ [ctD])) (List.drop 0 (List.take (List.length ([] ++ d2.1.1)) (List.drop 0 ([] ++ d2.1.1)) ++ [ctD])))],D.agg [D.str [104],D.sl true 1 [D.str [112],D.str [113]],D.sl true 2 [D.agg [D.str [122,115],D.int .i64 (1:Int)]],D.sl false 7 (List.take (List.length (List.take (List.length ([] ++ d3.1.1)) (List.drop 0 ([] ++ d3.1.1)) ++ [ctD])) (List.drop 0 (List.take (List.length ([] ++ d3.1.1)) (List.drop 0 ([] ++ d3.1.1)) ++ [ctD])))],D.agg [D.str [103],D.sl true 0 [],D.sl true 2 [D.agg [D.str [97],D.int .i64 (0:Int)],D.agg [D.str [98],D.int .i64 (0:Int)],D.agg [D.str [99],D.int .i64 (0:Int)],D.agg [D.str [100],D.int .i64 (0:Int)],D.agg [D.str [120,115],D.int .i64 (3:Int)],D.agg [D.str [121,115],D.int .i64 (5:Int)]],D.sl false 7 (List.take (List.length (List.take (List.length ([] ++ d4.1.1)) (List.drop 0 ([] ++ d4.1.1)) ++ [ctD])) (List.drop 0 (List.take (List.length ([] ++ d4.1.1)) (List.drop 0 ([] ++ d4.1.1)) ++ [ctD])))]]])]) fun (d6:Int × Int × Unit) =>
                                        cond d1.1
                                         (cond (d5.2.1 == (0:Int))
                                          (cond ((d5.1 == (0:Int)) == false)
                                           (cond (d5.1 == (8:Int))
                                            (cond (d6.1 == (6:Int))
                                             (some ((d6.2.1 == (-1 : Int),())))
                                             (some ((false,()))))
                                            (some ((false,()))))
                                           (some ((false,()))))
                                          (some ((false,()))))
                                         (some ((false,()))))
                                      (none))
                                     (none))
                                    (none))
                                   (none))
                                  (none))
                                 (none))
                                (none))
                               (none))
                              (none))
                             (S.optZ (S.plainS cs [S.Hm.int .i64,S.Hm.int .i64] 18 [AV.im (D.agg [D.sl false 4 [D.agg [D.str [103],D.sl true 1 [D.str [112]],D.sl true 2 [D.agg [D.str [114],D.int .i64 (0:Int)],D.agg [D.str [122,115],D.int .i64 (2:Int)]],D.sl false 7 d2.1.1],D.agg [D.str [104],D.sl true 1 [D.str [112],D.str [113]],D.sl true 2 [D.agg [D.str [122,115],D.int .i64 (1:Int)]],D.sl false 7 (List.take (List.length (List.take (List.length ([] ++ d3.1.1)) (List.drop 0 ([] ++ d3.1.1)) ++ [ctD])) (List.drop 0 (List.take (List.length ([] ++ d3.1.1)) (List.drop 0 ([] ++ d3.1.1)) ++ [ctD])))],D.agg [D.str [109,97,105,110],D.sl true 0 [],D.sl true 2 [D.agg [D.str [97],D.int .i64 (0:Int)],D.agg [D.str [98],D.int .i64 (0:Int)],D.agg [D.str [99],D.int .i64 (0:Int)],D.agg [D.str [100],D.int .i64 (0:Int)],D.agg [D.str [120,115],D.int .i64 (3:Int)],D.agg [D.str [121,115],D.int .i64 (5:Int)]],D.sl false 7 (List.take (List.length (List.take (List.length ([] ++ d4.1.1)) (List.drop 0 ([] ++ d4.1.1)) ++ [ctD])) (List.drop 0 (List.take (List.length ([] ++ d4.1.1)) (List.drop 0 ([] ++ d4.1.1)) ++ [ctD])))]]])]) fun (d7:Int × Int × Unit) =>
                              S.optZ (S.plainS cs [S.Hm.int .i64,S.Hm.int .i64] 18 [AV.im (D.agg [D.sl false 4 [D.agg [D.str [103],D.sl true 1 [D.str [112]],D.sl true 2 [D.agg [D.str [114],D.int .i64 (0:Int)],D.agg [D.str [122,115],D.int .i64 (2:Int)]],D.sl false 7 d2.1.1],D.agg [D.str [104],D.sl true 1 [D.str [112],D.str [113]],D.sl true 2 [D.agg [D.str [122,115],D.int .i64 (1:Int)]],D.sl false 7 (List.take (List.length (List.take (List.length ([] ++ d3.1.1)) (List.drop 0 ([] ++ d3.1.1)) ++ [ctD])) (List.drop 0 (List.take (List.length ([] ++ d3.1.1)) (List.drop 0 ([] ++ d3.1.1)) ++ [ctD])))],D.agg [D.str [103],D.sl true 0 [],D.sl true 2 [D.agg [D.str [97],D.int .i64 (0:Int)],D.agg [D.str [98],D.int .i64 (0:Int)],D.agg [D.str [99],D.int .i64 (0:Int)],D.agg [D.str [100],D.int .i64 (0:Int)],D.agg [D.str [120,115],D.int .i64 (3:Int)],D.agg [D.str [121,115],D.int .i64 (5:Int)]],D.sl false 7 (List.take (List.length (List.take (List.length ([] ++ d4.1.1)) (List.drop 0 ([] ++ d4.1.1)) ++ [ctD])) (List.drop 0 (List.take (List.length ([] ++ d4.1.1)) (List.drop 0 ([] ++ d4.1.1)) ++ [ctD])))]]])]) fun (d8:Int × Int × Unit) =>
                               cond d1.1
                                (cond (d7.2.1 == (1:Int))
                                 (cond ((d7.1 == (0:Int)) == false)
                                  (cond (d7.1 == (8:Int))
                                   (cond (d8.1 == (6:Int))
                                    (some ((d8.2.1 == (-1 : Int),())))
                                    (some ((false,()))))
                                   (some ((false,()))))
                                  (some ((false,()))))
                                 (some ((false,()))))
                                (some ((false,())))))
                            (none))
                           (none))
                          (none))
                         (none))
                        (none))
                       (none))
                      (none))
                     (none))
                    (none))
                   (cond (b)
                    (cond (S.eqA (AV.im (ctD)) (AV.im (ctD)))
                     (cond (S.eqA (AV.im (D.sl true 7 [ctD])) (AV.im (D.sl true 7 [ctD])))
                      (cond (List.all (List.map AV.im d2.1.1) fun (e:AV)=>e.cells.all okCell)
                       (cond (decide (List.length ([] ++ d2.1.1) * 120 ≤ 140737488355328))
                        (cond (decide (List.length ([] ++ d2.1.1) ≤ 140737488355328))
                         (cond (S.eqA (AV.im (ctD)) (AV.im (ctD)))
                          (cond (S.eqA (AV.im (D.sl true 7 [ctD])) (AV.im (D.sl true 7 [ctD])))
                           (cond (decide (List.length (List.take (List.length ([] ++ d2.1.1)) (List.drop 0 ([] ++ d2.1.1)) ++ [ctD]) * 120 ≤ 140737488355328))
                            (cond (decide (List.length (List.take (List.length ([] ++ d2.1.1)) (List.drop 0 ([] ++ d2.1.1)) ++ [ctD]) ≤ 140737488355328))
                             (S.optZ (S.plainS cs [S.Hm.int .i64,S.Hm.int .i64] 18 [AV.im (D.agg [D.sl false 4 [D.agg [D.str [103],D.sl true 1 [D.str [112]],D.sl true 2 [D.agg [D.str [114],D.int .i64 (0:Int)],D.agg [D.str [122,115],D.int .i64 (2:Int)]],D.sl false 7 (List.take (List.length (List.take (List.length ([] ++ d2.1.1)) (List.drop 0 ([] ++ d2.1.1)) ++ [ctD])) (List.drop 0 (List.take (List.length ([] ++ d2.1.1)) (List.drop 0 ([] ++ d2.1.1)) ++ [ctD])))],D.agg [D.str [104],D.sl true 1 [D.str [112],D.str [113]],D.sl true 2 [D.agg [D.str [122,115],D.int .i64 (1:Int)]],D.sl false 7 d3.1.1],D.agg [D.str [109,97,105,110],D.sl true 0 [],D.sl true 2 [D.agg [D.str [97],D.int .i64 (0:Int)],D.agg [D.str [98],D.int .i64 (0:Int)],D.agg [D.str [99],D.int .i64 (0:Int)],D.agg [D.str [100],D.int .i64 (0:Int)],D.agg [D.str [120,115],D.int .i64 (3:Int)],D.agg [D.str [121,115],D.int .i64 (5:Int)]],D.sl false 7 (List.take (List.length (List.take (List.length ([] ++ d4.1.1)) (List.drop 0 ([] ++ d4.1.1)) ++ [ctD])) (List.drop 0 (List.take (List.length ([] ++ d4.1.1)) (List.drop 0 ([] ++ d4.1.1)) ++ [ctD])))]]])]) fun (d9:Int × Int × Unit) =>
                              S.optZ (S.plainS cs [S.Hm.int .i64,S.Hm.int .i64] 18 [AV.im (D.agg [D.sl false 4 [D.agg [D.str [103],D.sl true 1 [D.str [112]],D.sl true 2 [D.agg [D.str [114],D.int .i64 (0:Int)],D.agg [D.str [122,115],D.int .i64 (2:Int)]],D.sl false 7 (List.take (List.length (List.take (List.length ([] ++ d2.1.1)) (List.drop 0 ([] ++ d2.1.1)) ++ [ctD])) (List.drop 0 (List.take (List.length ([] ++ d2.1.1)) (List.drop 0 ([] ++ d2.1.1)) ++ [ctD])))],D.agg [D.str [104],D.sl true 1 [D.str [112],D.str [113]],D.sl true 2 [D.agg [D.str [122,115],D.int .i64 (1:Int)]],D.sl false 7 d3.1.1],D.agg [D.str [103],D.sl true 0 [],D.sl true 2 [D.agg [D.str [97],D.int .i64 (0:Int)],D.agg [D.str [98],D.int .i64 (0:Int)],D.agg [D.str [99],D.int .i64 (0:Int)],D.agg [D.str [100],D.int .i64 (0:Int)],D.agg [D.str [120,115],D.int .i64 (3:Int)],D.agg [D.str [121,115],D.int .i64 (5:Int)]],D.sl false 7 (List.take (List.length (List.take (List.length ([] ++ d4.1.1)) (List.drop 0 ([] ++ d4.1.1)) ++ [ctD])) (List.drop 0 (List.take (List.length ([] ++ d4.1.1)) (List.drop 0 ([] ++ d4.1.1)) ++ [ctD])))]]])]) fun (d10:Int × Int × Unit) =>
                               cond d1.1
                                (cond (d9.2.1 == (0:Int))
                                 (cond ((d9.1 == (0:Int)) == false)
                                  (cond (d9.1 == (8:Int))
                                   (cond (d10.1 == (6:Int))
                                    (some ((d10.2.1 == (-1 : Int),())))
                                    (some ((false,()))))
                                   (some ((false,()))))
                                  (some ((false,()))))
                                 (some ((false,()))))
                                (some ((false,()))))
                             (none))
                            (none))
                           (none))
                          (none))
                         (none))
                        (none))
                       (none))
                      (none))
                     (none))
                    (S.optZ (S.plainS cs [S.Hm.int .i64,S.Hm.int .i64] 18 [AV.im (D.agg [D.sl false 4 [D.agg [D.str [103],D.sl true 1 [D.str [112]],D.sl true 2 [D.agg [D.str [114],D.int .i64 (0:Int)],D.agg [D.str [122,115],D.int .i64 (2:Int)]],D.sl false 7 d2.1.1],D.agg [D.str [104],D.sl true 1 [D.str [112],D.str [113]],D.sl true 2 [D.agg [D.str [122,115],D.int .i64 (1:Int)]],D.sl false 7 d3.1.1],D.agg [D.str [109,97,105,110],D.sl true 0 [],D.sl true 2 [D.agg [D.str [97],D.int .i64 (0:Int)],D.agg [D.str [98],D.int .i64 (0:Int)],D.agg [D.str [99],D.int .i64 (0:Int)],D.agg [D.str [100],D.int .i64 (0:Int)],D.agg [D.str [120,115],D.int .i64 (3:Int)],D.agg [D.str [121,115],D.int .i64 (5:Int)]],D.sl false 7 (List.take (List.length (List.take (List.length ([] ++ d4.1.1)) (List.drop 0 ([] ++ d4.1.1)) ++ [ctD])) (List.drop 0 (List.take (List.length ([] ++ d4.1.1)) (List.drop 0 ([] ++ d4.1.1)) ++ [ctD])))]]])]) fun (d11:Int × Int × Unit) =>
                     S.optZ (S.plainS cs [S.Hm.int .i64,S.Hm.int .i64] 18 [AV.im (D.agg [D.sl false 4 [D.agg [D.str [103],D.sl true 1 [D.str [112]],D.sl true 2 [D.agg [D.str [114],D.int .i64 (0:Int)],D.agg [D.str [122,115],D.int .i64 (2:Int)]],D.sl false 7 d2.1.1],D.agg [D.str [104],D.sl true 1 [D.str [112],D.str [113]],D.sl true 2 [D.agg [D.str [122,115],D.int .i64 (1:Int)]],D.sl false 7 d3.1.1],D.agg [D.str [103],D.sl true 0 [],D.sl true 2 [D.agg [D.str [97],D.int .i64 (0:Int)],D.agg [D.str [98],D.int .i64 (0:Int)],D.agg [D.str [99],D.int .i64 (0:Int)],D.agg [D.str [100],D.int .i64 (0:Int)],D.agg [D.str [120,115],D.int .i64 (3:Int)],D.agg [D.str [121,115],D.int .i64 (5:Int)]],D.sl false 7 (List.take (List.length (List.take (List.length ([] ++ d4.1.1)) (List.drop 0 ([] ++ d4.1.1)) ++ [ctD])) (List.drop 0 (List.take (List.length ([] ++ d4.1.1)) (List.drop 0 ([] ++ d4.1.1)) ++ [ctD])))]]])]) fun (d12:Int × Int × Unit) =>
                      cond d1.1
                       (cond (d11.2.1 == (2:Int))
                        (cond ((d11.1 == (0:Int)) == false)
                         (cond (d11.1 == (8:Int))
                          (cond (d12.1 == (6:Int))
                           (some ((d12.2.1 == (-1 : Int),())))
                           (some ((false,()))))
                          (some ((false,()))))
                         (some ((false,()))))
                        (some ((false,()))))
                       (some ((false,()))))))
                  (none))
                 (none))
                (none))
               (none))
              (none))
             (none))
            (none))
           (none))
          (none))
         (cond (c)
          (cond (S.eqA (AV.im (ctD)) (AV.im (ctD)))
           (cond (S.eqA (AV.im (D.sl true 7 [ctD])) (AV.im (D.sl true 7 [ctD])))
            (cond (List.all (List.map AV.im d3.1.1) fun (e:AV)=>e.cells.all okCell)
             (cond (decide (List.length ([] ++ d3.1.1) * 120 ≤ 140737488355328))
              (cond (decide (List.length ([] ++ d3.1.1) ≤ 140737488355328))
               (cond (S.eqA (AV.im (ctD)) (AV.im (ctD)))
                (cond (S.eqA (AV.im (D.sl true 7 [ctD])) (AV.im (D.sl true 7 [ctD])))
                 (cond (decide (List.length (List.take (List.length ([] ++ d3.1.1)) (List.drop 0 ([] ++ d3.1.1)) ++ [ctD]) * 120 ≤ 140737488355328))
                  (cond (decide (List.length (List.take (List.length ([] ++ d3.1.1)) (List.drop 0 ([] ++ d3.1.1)) ++ [ctD]) ≤ 140737488355328))
                   (cond (b)
                    (cond (S.eqA (AV.im (ctD)) (AV.im (ctD)))
                     (cond (S.eqA (AV.im (D.sl true 7 [ctD])) (AV.im (D.sl true 7 [ctD])))
                      (cond (List.all (List.map AV.im d2.1.1) fun (e:AV)=>e.cells.all okCell)
                       (cond (decide (List.length ([] ++ d2.1.1) * 120 ≤ 140737488355328))
                        (cond (decide (List.length ([] ++ d2.1.1) ≤ 140737488355328))
                         (cond (S.eqA (AV.im (ctD)) (AV.im (ctD)))
                          (cond (S.eqA (AV.im (D.sl true 7 [ctD])) (AV.im (D.sl true 7 [ctD])))
                           (cond (decide (List.length (List.take (List.length ([] ++ d2.1.1)) (List.drop 0 ([] ++ d2.1.1)) ++ [ctD]) * 120 ≤ 140737488355328))
                            (cond (decide (List.length (List.take (List.length ([] ++ d2.1.1)) (List.drop 0 ([] ++ d2.1.1)) ++ [ctD]) ≤ 140737488355328))
                             (S.optZ (S.plainS cs [S.Hm.int .i64,S.Hm.int .i64] 18 [AV.im (D.agg [D.sl false 4 [D.agg [D.str [103],D.sl true 1 [D.str [112]],D.sl true 2 [D.agg [D.str [114],D.int .i64 (0:Int)],D.agg [D.str [122,115],D.int .i64 (2:Int)]],D.sl false 7 (List.take (List.length (List.take (List.length ([] ++ d2.1.1)) (List.drop 0 ([] ++ d2.1.1)) ++ [ctD])) (List.drop 0 (List.take (List.length ([] ++ d2.1.1)) (List.drop 0 ([] ++ d2.1.1)) ++ [ctD])))],D.agg [D.str [104],D.sl true 1 [D.str [112],D.str [113]],D.sl true 2 [D.agg [D.str [122,115],D.int .i64 (1:Int)]],D.sl false 7 (List.take (List.length (List.take (List.length ([] ++ d3.1.1)) (List.drop 0 ([] ++ d3.1.1)) ++ [ctD])) (List.drop 0 (List.take (List.length ([] ++ d3.1.1)) (List.drop 0 ([] ++ d3.1.1)) ++ [ctD])))],D.agg [D.str [109,97,105,110],D.sl true 0 [],D.sl true 2 [D.agg [D.str [97],D.int .i64 (0:Int)],D.agg [D.str [98],D.int .i64 (0:Int)],D.agg [D.str [99],D.int .i64 (0:Int)],D.agg [D.str [100],D.int .i64 (0:Int)],D.agg [D.str [120,115],D.int .i64 (3:Int)],D.agg [D.str [121,115],D.int .i64 (5:Int)]],D.sl false 7 d4.1.1]]])]) fun (d13:Int × Int × Unit) =>
                              S.optZ (S.plainS cs [S.Hm.int .i64,S.Hm.int .i64] 18 [AV.im (D.agg [D.sl false 4 [D.agg [D.str [103],D.sl true 1 [D.str [112]],D.sl true 2 [D.agg [D.str [114],D.int .i64 (0:Int)],D.agg [D.str [122,115],D.int .i64 (2:Int)]],D.sl false 7 (List.take (List.length (List.take (List.length ([] ++ d2.1.1)) (List.drop 0 ([] ++ d2.1.1)) ++ [ctD])) (List.drop 0 (List.take (List.length ([] ++ d2.1.1)) (List.drop 0 ([] ++ d2.1.1)) ++ [ctD])))],D.agg [D.str [104],D.sl true 1 [D.str [112],D.str [113]],D.sl true 2 [D.agg [D.str [122,115],D.int .i64 (1:Int)]],D.sl false 7 (List.take (List.length (List.take (List.length ([] ++ d3.1.1)) (List.drop 0 ([] ++ d3.1.1)) ++ [ctD])) (List.drop 0 (List.take (List.length ([] ++ d3.1.1)) (List.drop 0 ([] ++ d3.1.1)) ++ [ctD])))],D.agg [D.str [103],D.sl true 0 [],D.sl true 2 [D.agg [D.str [97],D.int .i64 (0:Int)],D.agg [D.str [98],D.int .i64 (0:Int)],D.agg [D.str [99],D.int .i64 (0:Int)],D.agg [D.str [100],D.int .i64 (0:Int)],D.agg [D.str [120,115],D.int .i64 (3:Int)],D.agg [D.str [121,115],D.int .i64 (5:Int)]],D.sl false 7 d4.1.1]]])]) fun (d14:Int × Int × Unit) =>
                               cond d1.1
                                (cond (d13.2.1 == (0:Int))
                                 (cond ((d13.1 == (0:Int)) == false)
                                  (cond (d13.1 == (8:Int))
                                   (cond (d14.1 == (6:Int))
                                    (some ((d14.2.1 == (-1 : Int),())))
                                    (some ((false,()))))
                                   (some ((false,()))))
                                  (some ((false,()))))
                                 (some ((false,()))))
                                (some ((false,()))))
                             (none))
                            (none))
                           (none))
                          (none))
                         (none))
                        (none))
                       (none))
                      (none))
                     (none))
                    (S.optZ (S.plainS cs [S.Hm.int .i64,S.Hm.int .i64] 18 [AV.im (D.agg [D.sl false 4 [D.agg [D.str [103],D.sl true 1 [D.str [112]],D.sl true 2 [D.agg [D.str [114],D.int .i64 (0:Int)],D.agg [D.str [122,115],D.int .i64 (2:Int)]],D.sl false 7 d2.1.1],D.agg [D.str [104],D.sl true 1 [D.str [112],D.str [113]],D.sl true 2 [D.agg [D.str [122,115],D.int .i64 (1:Int)]],D.sl false 7 (List.take (List.length (List.take (List.length ([] ++ d3.1.1)) (List.drop 0 ([] ++ d3.1.1)) ++ [ctD])) (List.drop 0 (List.take (List.length ([] ++ d3.1.1)) (List.drop 0 ([] ++ d3.1.1)) ++ [ctD])))],D.agg [D.str [109,97,105,110],D.sl true 0 [],D.sl true 2 [D.agg [D.str [97],D.int .i64 (0:Int)],D.agg [D.str [98],D.int .i64 (0:Int)],D.agg [D.str [99],D.int .i64 (0:Int)],D.agg [D.str [100],D.int .i64 (0:Int)],D.agg [D.str [120,115],D.int .i64 (3:Int)],D.agg [D.str [121,115],D.int .i64 (5:Int)]],D.sl false 7 d4.1.1]]])]) fun (d15:Int × Int × Unit) =>
                     S.optZ (S.plainS cs [S.Hm.int .i64,S.Hm.int .i64] 18 [AV.im (D.agg [D.sl false 4 [D.agg [D.str [103],D.sl true 1 [D.str [112]],D.sl true 2 [D.agg [D.str [114],D.int .i64 (0:Int)],D.agg [D.str [122,115],D.int .i64 (2:Int)]],D.sl false 7 d2.1.1],D.agg [D.str [104],D.sl true 1 [D.str [112],D.str [113]],D.sl true 2 [D.agg [D.str [122,115],D.int .i64 (1:Int)]],D.sl false 7 (List.take (List.length (List.take (List.length ([] ++ d3.1.1)) (List.drop 0 ([] ++ d3.1.1)) ++ [ctD])) (List.drop 0 (List.take (List.length ([] ++ d3.1.1)) (List.drop 0 ([] ++ d3.1.1)) ++ [ctD])))],D.agg [D.str [103],D.sl true 0 [],D.sl true 2 [D.agg [D.str [97],D.int .i64 (0:Int)],D.agg [D.str [98],D.int .i64 (0:Int)],D.agg [D.str [99],D.int .i64 (0:Int)],D.agg [D.str [100],D.int .i64 (0:Int)],D.agg [D.str [120,115],D.int .i64 (3:Int)],D.agg [D.str [121,115],D.int .i64 (5:Int)]],D.sl false 7 d4.1.1]]])]) fun (d16:Int × Int × Unit) =>
                      cond d1.1
                       (cond (d15.2.1 == (1:Int))
                        (cond ((d15.1 == (0:Int)) == false)
                         (cond (d15.1 == (8:Int))
                          (cond (d16.1 == (6:Int))
                           (some ((d16.2.1 == (-1 : Int),())))
                           (some ((false,()))))
                          (some ((false,()))))
                         (some ((false,()))))
                        (some ((false,()))))
                       (some ((false,())))))
                   (none))
                  (none))
                 (none))
                (none))
               (none))
              (none))
             (none))
            (none))
           (none))
          (cond (b)
           (cond (S.eqA (AV.im (ctD)) (AV.im (ctD)))
            (cond (S.eqA (AV.im (D.sl true 7 [ctD])) (AV.im (D.sl true 7 [ctD])))
             (cond (List.all (List.map AV.im d2.1.1) fun (e:AV)=>e.cells.all okCell)
              (cond (decide (List.length ([] ++ d2.1.1) * 120 ≤ 140737488355328))
               (cond (decide (List.length ([] ++ d2.1.1) ≤ 140737488355328))
                (cond (S.eqA (AV.im (ctD)) (AV.im (ctD)))
                 (cond (S.eqA (AV.im (D.sl true 7 [ctD])) (AV.im (D.sl true 7 [ctD])))
                  (cond (decide (List.length (List.take (List.length ([] ++ d2.1.1)) (List.drop 0 ([] ++ d2.1.1)) ++ [ctD]) * 120 ≤ 140737488355328))
                   (cond (decide (List.length (List.take (List.length ([] ++ d2.1.1)) (List.drop 0 ([] ++ d2.1.1)) ++ [ctD]) ≤ 140737488355328))
                    (S.optZ (S.plainS cs [S.Hm.int .i64,S.Hm.int .i64] 18 [AV.im (D.agg [D.sl false 4 [D.agg [D.str [103],D.sl true 1 [D.str [112]],D.sl true 2 [D.agg [D.str [114],D.int .i64 (0:Int)],D.agg [D.str [122,115],D.int .i64 (2:Int)]],D.sl false 7 (List.take (List.length (List.take (List.length ([] ++ d2.1.1)) (List.drop 0 ([] ++ d2.1.1)) ++ [ctD])) (List.drop 0 (List.take (List.length ([] ++ d2.1.1)) (List.drop 0 ([] ++ d2.1.1)) ++ [ctD])))],D.agg [D.str [104],D.sl true 1 [D.str [112],D.str [113]],D.sl true 2 [D.agg [D.str [122,115],D.int .i64 (1:Int)]],D.sl false 7 d3.1.1],D.agg [D.str [109,97,105,110],D.sl true 0 [],D.sl true 2 [D.agg [D.str [97],D.int .i64 (0:Int)],D.agg [D.str [98],D.int .i64 (0:Int)],D.agg [D.str [99],D.int .i64 (0:Int)],D.agg [D.str [100],D.int .i64 (0:Int)],D.agg [D.str [120,115],D.int .i64 (3:Int)],D.agg [D.str [121,115],D.int .i64 (5:Int)]],D.sl false 7 d4.1.1]]])]) fun (d17:Int × Int × Unit) =>
                     S.optZ (S.plainS cs [S.Hm.int .i64,S.Hm.int .i64] 18 [AV.im (D.agg [D.sl false 4 [D.agg [D.str [103],D.sl true 1 [D.str [112]],D.sl true 2 [D.agg [D.str [114],D.int .i64 (0:Int)],D.agg [D.str [122,115],D.int .i64 (2:Int)]],D.sl false 7 (List.take (List.length (List.take (List.length ([] ++ d2.1.1)) (List.drop 0 ([] ++ d2.1.1)) ++ [ctD])) (List.drop 0 (List.take (List.length ([] ++ d2.1.1)) (List.drop 0 ([] ++ d2.1.1)) ++ [ctD])))],D.agg [D.str [104],D.sl true 1 [D.str [112],D.str [113]],D.sl true 2 [D.agg [D.str [122,115],D.int .i64 (1:Int)]],D.sl false 7 d3.1.1],D.agg [D.str [103],D.sl true 0 [],D.sl true 2 [D.agg [D.str [97],D.int .i64 (0:Int)],D.agg [D.str [98],D.int .i64 (0:Int)],D.agg [D.str [99],D.int .i64 (0:Int)],D.agg [D.str [100],D.int .i64 (0:Int)],D.agg [D.str [120,115],D.int .i64 (3:Int)],D.agg [D.str [121,115],D.int .i64 (5:Int)]],D.sl false 7 d4.1.1]]])]) fun (d18:Int × Int × Unit) =>
                      cond d1.1
                       (cond (d17.2.1 == (0:Int))
                        (cond ((d17.1 == (0:Int)) == false)
                         (cond (d17.1 == (8:Int))
                          (cond (d18.1 == (6:Int))
                           (some ((d18.2.1 == (-1 : Int),())))
                           (some ((false,()))))
                          (some ((false,()))))
                         (some ((false,()))))
                        (some ((false,()))))
                       (some ((false,()))))
                    (none))
                   (none))
                  (none))
                 (none))
                (none))
               (none))
              (none))
             (none))
            (none))
           (S.optZ (S.plainS cs [S.Hm.int .i64,S.Hm.int .i64] 18 [AV.im (D.agg [D.sl false 4 [D.agg [D.str [103],D.sl true 1 [D.str [112]],D.sl true 2 [D.agg [D.str [114],D.int .i64 (0:Int)],D.agg [D.str [122,115],D.int .i64 (2:Int)]],D.sl false 7 d2.1.1],D.agg [D.str [104],D.sl true 1 [D.str [112],D.str [113]],D.sl true 2 [D.agg [D.str [122,115],D.int .i64 (1:Int)]],D.sl false 7 d3.1.1],D.agg [D.str [109,97,105,110],D.sl true 0 [],D.sl true 2 [D.agg [D.str [97],D.int .i64 (0:Int)],D.agg [D.str [98],D.int .i64 (0:Int)],D.agg [D.str [99],D.int .i64 (0:Int)],D.agg [D.str [100],D.int .i64 (0:Int)],D.agg [D.str [120,115],D.int .i64 (3:Int)],D.agg [D.str [121,115],D.int .i64 (5:Int)]],D.sl false 7 d4.1.1]]])]) fun (d19:Int × Int × Unit) =>
            S.optZ (S.plainS cs [S.Hm.int .i64,S.Hm.int .i64] 18 [AV.im (D.agg [D.sl false 4 [D.agg [D.str [103],D.sl true 1 [D.str [112]],D.sl true 2 [D.agg [D.str [114],D.int .i64 (0:Int)],D.agg [D.str [122,115],D.int .i64 (2:Int)]],D.sl false 7 d2.1.1],D.agg [D.str [104],D.sl true 1 [D.str [112],D.str [113]],D.sl true 2 [D.agg [D.str [122,115],D.int .i64 (1:Int)]],D.sl false 7 d3.1.1],D.agg [D.str [103],D.sl true 0 [],D.sl true 2 [D.agg [D.str [97],D.int .i64 (0:Int)],D.agg [D.str [98],D.int .i64 (0:Int)],D.agg [D.str [99],D.int .i64 (0:Int)],D.agg [D.str [100],D.int .i64 (0:Int)],D.agg [D.str [120,115],D.int .i64 (3:Int)],D.agg [D.str [121,115],D.int .i64 (5:Int)]],D.sl false 7 d4.1.1]]])]) fun (d20:Int × Int × Unit) =>
             cond d1.1
              (cond (d19.2.1 == (-1 : Int))
               (cond ((d19.1 == (0:Int)) == true)
                (cond (d20.1 == (6:Int))
                 (some ((d20.2.1 == (-1 : Int),())))
                 (some ((false,()))))
                (some ((false,()))))
               (some ((false,()))))
              (some ((false,())))))))
     (none))
    (none))
theorem F5_eq (cs:Oracle) (lf:Nat) (a0:List D) (a1:Bool) (a2 a3:List D) (b c d:Bool) : S.bodyS T (SGJ cs) cs fi5 6 [.im (.agg [(.sl false 4 a0),(.bool a1),(.sl false 1 a2),(.sl false 1 a3)]),.im (.bool b),.im (.bool c),.im (.bool d)] [] (S.endP [.bool]) = F5 cs lf a0 a1 a2 a3 b c d:=by
 kernel_rfl
theorem fi5_ok : fi5.ok Tryz.prog 5:=⟨Tryz.func5,by decide,rfl,by rfl⟩
end Go.Proofs.YtkinbnepkpoofaaGreatDoor