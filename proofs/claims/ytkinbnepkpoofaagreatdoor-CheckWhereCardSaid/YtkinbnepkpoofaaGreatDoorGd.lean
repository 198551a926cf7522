/- Texts joined into one: F49 F16 F155 F108 F102 F104 F106 F55 F213 F212_0 F260_c1 F286_c1 F261 F167 F211 F214 F127 F166_0 F115_c1 F157_c1 F210 F86 F29 F71_0 F121_c1 F122 F72 F67_c1 F50 F18. -/
import Derived.Test.YtkinbnepkpoofaaGreatDoorGa
/- billhook/billhooklaw05.made: what it comes to. -/
set_option linter.unusedVariables false
set_option maxRecDepth 100000
set_option maxHeartbeats 0
open Go Go.AM
namespace Go.Proofs.YtkinbnepkpoofaaGreatDoor
noncomputable def fi49 : Fi:=mkFi T Tryz.f49 { lend:=isIn [96] }
noncomputable abbrev X49 (cs:Oracle) : Px:=fi49.px T cs 0
noncomputable abbrev K49 : S.Kq (S.Hms.T [.any]):=S.finZ T fi49 0 (S.endP [.any])
noncomputable def F49 (cs:Oracle) (lf:Nat) (a b:List D) : Option (S.Hms.T [.any]) :=
 cond (decide ((0:Int) ≤ IntKind.wrap .i64 (Int.tdiv (↑(List.length b) : Int) (2:Int))))
  (cond (decide (IntKind.wrap .i64 (Int.tdiv (↑(List.length b) : Int) (2:Int)) ≤ (↑(List.length b) : Int)))
   (S.optZ (S.lentS cs (SF [S.Hm.sl 7]) 96 [AV.ptr 0 0 0,AV.im (D.int .i64 (1:Int)),AV.im (D.int .i64 (4:Int)),AV.im (D.bool false)] [some (Blk.c 7 [D.agg [D.sl false 1 b,D.int .i64 (0:Int),D.sl true 1 [D.str [112],D.str [114]],D.sl true 1 [D.str [122,115]],D.int .i64 (4:Int),D.int .i64 (0:Int),D.bool false]])]) fun (d1:(List D × Unit) × FX × Unit) =>
    S.optZ (S.lentS cs (SF [S.Hm.sl 7]) 96 [AV.ptr 0 0 0,AV.im (D.int .i64 (1:Int)),AV.im (D.int .i64 (3:Int)),AV.im (D.bool false)] [some (Blk.c 7 [D.agg [D.sl false 1 (List.drop (Int.toNat (IntKind.wrap .i64 (Int.tdiv (↑(List.length b) : Int) (2:Int)))) (List.take (List.length b) b)),D.int .i64 (0:Int),D.sl true 1 [D.str [112],D.str [113]],D.sl true 1 [D.str [122,115]],D.int .i64 (3:Int),D.int .i64 (0:Int),D.bool false]])]) fun (d2:(List D × Unit) × FX × Unit) =>
     S.optZ (S.lentS cs (SF [S.Hm.sl 7]) 96 [AV.ptr 0 0 0,AV.im (D.int .i64 (2:Int)),AV.im (D.int .i64 (14:Int)),AV.im (D.bool false)] [some (Blk.c 7 [D.agg [D.sl false 1 a,D.int .i64 (0:Int),D.sl true 1 [D.str [97],D.str [98],D.str [99],D.str [100]],D.sl true 1 [D.str [120,115],D.str [121,115]],D.int .i64 (24:Int),D.int .i64 (0:Int),D.bool true]])]) fun (d3:(List D × Unit) × FX × Unit) =>
      some ((D.agg [D.sl true 4 [D.agg [D.str [103],D.sl true 1 [D.str [112]],D.sl true 2 [D.agg [D.str [114],D.int .i64 (0:Int)],D.agg [D.str [122,115],D.int .i64 (2:Int)]],D.sl false 7 d1.1.1],D.agg [D.str [104],D.sl true 1 [D.str [112],D.str [113]],D.sl true 2 [D.agg [D.str [122,115],D.int .i64 (1:Int)]],D.sl false 7 d2.1.1],D.agg [D.str [109,97,105,110],D.sl true 0 [],D.sl true 2 [D.agg [D.str [97],D.int .i64 (0:Int)],D.agg [D.str [98],D.int .i64 (0:Int)],D.agg [D.str [99],D.int .i64 (0:Int)],D.agg [D.str [100],D.int .i64 (0:Int)],D.agg [D.str [120,115],D.int .i64 (3:Int)],D.agg [D.str [121,115],D.int .i64 (5:Int)]],D.sl false 7 d3.1.1]]],())))
   (none))
  (none)
theorem F49_eq (cs:Oracle) (lf:Nat) (a b:List D) : S.bodyS T SG cs fi49 lf [.im (.sl false 1 a),.im (.sl false 1 b)] [] (S.endP [.any]) = F49 cs lf a b:=by
 kernel_rfl
theorem fi49_ok : fi49.ok Tryz.prog 49:=⟨Tryz.func49,by decide,rfl,by rfl⟩
end Go.Proofs.YtkinbnepkpoofaaGreatDoor
/- (billhook/billhooklaw05.Code).code: what it comes to. -/
open Go Go.AM
namespace Go.Proofs.YtkinbnepkpoofaaGreatDoor
noncomputable def fi16 : Fi:=mkFi T Tryz.f16 {  }
noncomputable abbrev X16 (cs:Oracle) : Px:=fi16.px T cs 0
noncomputable abbrev K16 : S.Kq (S.Hms.T [.any]):=S.finZ T fi16 0 (S.endP [.any])
noncomputable def F16 (cs:Oracle) (lf:Nat) (a0:List D) (a1:Bool) (a2 a3:List D) : Option (S.Hms.T [.any]) :=
 cond (!a1)
  (some ((D.agg [D.sl false 4 a0],())))
  (S.optZ (S.pureS cs [S.Hm.any] 49 [AV.im (D.sl false 1 a2),AV.im (D.sl false 1 a3)]) fun (d1:D × Unit) =>
   S.optZ (S.stDec [Sc.sl 4] d1.1) fun (d2:List D) =>
    some ((D.agg [D.sl false 4 d2],())))
theorem F16_eq (cs:Oracle) (lf:Nat) (a0:List D) (a1:Bool) (a2 a3:List D) : S.bodyS T SG cs fi16 lf [.im (.agg [(.sl false 4 a0),(.bool a1),(.sl false 1 a2),(.sl false 1 a3)])] [] (S.endP [.any]) = F16 cs lf a0 a1 a2 a3:=by
 kernel_rfl
theorem fi16_ok : fi16.ok Tryz.prog 16:=⟨Tryz.func16,by decide,rfl,by rfl⟩
end Go.Proofs.YtkinbnepkpoofaaGreatDoor
/- billhook/check.expr: what it comes to. -/
open Go Go.AM
namespace Go.Proofs.YtkinbnepkpoofaaGreatDoor
noncomputable def fi155 : Fi:=mkFi T Tryz.f155 {  }
noncomputable abbrev X155 (cs:Oracle) : Px:=fi155.px T cs 0
noncomputable abbrev K155 : S.Kq (S.Hms.T [.int .i64]):=S.finZ T fi155 0 (S.endP [.int .i64])
noncomputable def F155 (cs:Oracle) (lf:Nat) (a0:List UInt8) (a1 a2 a3:List D) (b0:Int) (b1:List UInt8) (b2:Int) (b3:List UInt8) (b4:List D) : Option (S.Hms.T [.int .i64]) :=
 cond (b0 == (1:Int))
  (S.optZ (S.pureS cs [S.Hm.int .i64] 64 [AV.im (D.agg [D.str a0,D.sl false 1 a1,D.sl false 2 a2,D.sl false 7 a3]),AV.im (D.str b3),AV.im (D.bool (b0 == (2:Int)))]) fun (d1:Int × Unit) =>
   cond (d1.1 != (0:Int))
    (some ((d1.1,())))
    (S.optZ (S.pureS cs [S.Hm.int .i64] 108 [AV.im (D.agg [D.str a0,D.sl false 1 a1,D.sl false 2 a2,D.sl false 7 a3]),AV.im (D.sl false 5 b4)]) fun (d2:Int × Unit) =>
     some ((d2.1,()))))
  (cond (b0 == (2:Int))
   (S.optZ (S.pureS cs [S.Hm.int .i64] 64 [AV.im (D.agg [D.str a0,D.sl false 1 a1,D.sl false 2 a2,D.sl false 7 a3]),AV.im (D.str b3),AV.im (D.bool (b0 == (2:Int)))]) fun (d3:Int × Unit) =>
    cond (d3.1 != (0:Int))
     (some ((d3.1,())))
     (S.optZ (S.pureS cs [S.Hm.int .i64] 108 [AV.im (D.agg [D.str a0,D.sl false 1 a1,D.sl false 2 a2,D.sl false 7 a3]),AV.im (D.sl false 5 b4)]) fun (d4:Int × Unit) =>
      some ((d4.1,()))))
   (S.optZ (S.pureS cs [S.Hm.int .i64] 108 [AV.im (D.agg [D.str a0,D.sl false 1 a1,D.sl false 2 a2,D.sl false 7 a3]),AV.im (D.sl false 5 b4)]) fun (d5:Int × Unit) =>
    some ((d5.1,()))))
theorem F155_eq (cs:Oracle) (lf:Nat) (a0:List UInt8) (a1 a2 a3:List D) (b0:Int) (b1:List UInt8) (b2:Int) (b3:List UInt8) (b4:List D) : S.bodyS T SG cs fi155 lf [.im (.agg [(.str a0),(.sl false 1 a1),(.sl false 2 a2),(.sl false 7 a3)]),.im (.agg [(.int .i64 b0),(.str b1),(.int .i64 b2),(.str b3),(.sl false 5 b4)])] [] (S.endP [.int .i64]) = F155 cs lf a0 a1 a2 a3 b0 b1 b2 b3 b4:=by
 kernel_rfl
theorem fi155_ok : fi155.ok Tryz.prog 155:=⟨Tryz.func155,by decide,rfl,by rfl⟩
end Go.Proofs.YtkinbnepkpoofaaGreatDoor
/- billhook/check.exprs: what it comes to. -/
open Go Go.AM
namespace Go.Proofs.YtkinbnepkpoofaaGreatDoor
noncomputable def fi108 : Fi:=mkFi T Tryz.f108 { live:=fun d=>if Nat.beq d 2 then slots 21 [2,8,9,10] else none }
noncomputable abbrev X108 (cs:Oracle) : Px:=fi108.px T cs 0
noncomputable abbrev K108 : S.Kq (S.Hms.T [.int .i64]):=S.finZ T fi108 0 (S.endP [.int .i64])
def E108_1 (a0:List UInt8) (a1 a2 a3 b:List D) (s:(Int)) : Env :=
 match s with
 | v1 =>
  [AV.bad,AV.bad,AV.ptr 0 0 0,AV.bad,AV.bad,AV.bad,AV.bad,AV.bad,AV.im (D.sl false 5 b),AV.im (D.int .i64 (↑(List.length b) : Int)),AV.im (D.int .i64 v1),AV.bad,AV.bad,AV.bad,AV.bad,AV.bad,AV.bad,AV.bad,AV.bad,AV.bad,AV.bad]
def H108_1 (a0:List UInt8) (a1 a2 a3 b:List D) (s:(Int)) : Heap :=
 match s with
 | v1 =>
  [some (Blk.c 4 [D.agg [D.str a0,D.sl false 1 a1,D.sl false 2 a2,D.sl false 7 a3]])]
noncomputable def C108_1 (cs:Oracle) (lf:Nat)  : Code × S.Kq (S.Hms.T [.int .i64]):=S.subZ (X108 cs) SG lf fi108.code [1,0,1,0] [] K108
noncomputable def B108_1 (cs:Oracle) (lf:Nat) (a0:List UInt8) (a1 a2 a3 b:List D)   (s:(Int)) (R2:(Int) → Option (S.Hms.T [.int .i64])) : Option (S.Hms.T [.int .i64]) :=
 match s with
 | v1 =>
  cond (decide (v1 < (↑(List.length b) : Int)))
  (cond (decide ((0:Int) ≤ v1))
   (S.optZ (b[Int.toNat v1]?) fun (d3:D) =>
    S.optZ (S.stDec EX d3) fun (d4:EXT) =>
     S.optZ (S.pureS cs [S.Hm.int .i64] 155 [AV.im (D.agg [D.str a0,D.sl false 1 a1,D.sl false 2 a2,D.sl false 7 a3]),AV.im (exD d4)]) fun (d5:Int × Unit) =>
      cond (d5.1 != (0:Int))
       (some ((d5.1,())))
       (R2 (IntKind.wrap .i64 (v1 + (1:Int)))))
   (none))
  (some (((0:Int),())))
theorem B108_1_eq (cs:Oracle) (lf:Nat) (a0:List UInt8) (a1 a2 a3 b:List D) (n:Nat) (s:(Int)) : S.roundsZ (X108 cs) SG lf (C108_1 cs lf ) (n + 1) (E108_1 a0 a1 a2 a3 b s) (H108_1 a0 a1 a2 a3 b s) = B108_1 cs lf a0 a1 a2 a3 b   s (fun s'=>S.roundsZ (X108 cs) SG lf (C108_1 cs lf ) n (E108_1 a0 a1 a2 a3 b s') (H108_1 a0 a1 a2 a3 b s')):=by
 kernel_rfl
noncomputable def L108_1 (cs:Oracle) (lf:Nat) (a0:List UInt8) (a1 a2 a3 b:List D)  : Nat → (Int) → Option (S.Hms.T [.int .i64])
 | 0,_=>none
 | n + 1,s=>B108_1 cs lf a0 a1 a2 a3 b   s (L108_1 cs lf a0 a1 a2 a3 b  n)
theorem L108_1_eq (cs:Oracle) (lf:Nat) (a0:List UInt8) (a1 a2 a3 b:List D)   : ∀ (n:Nat) (s:(Int)),S.roundsZ (X108 cs) SG lf (C108_1 cs lf ) n (E108_1 a0 a1 a2 a3 b s) (H108_1 a0 a1 a2 a3 b s) = L108_1 cs lf a0 a1 a2 a3 b  n s
 | 0,s=>by
  show _ = none
  kernel_rfl
 | n + 1,s=>by
  have h1 : (fun s'=>S.roundsZ (X108 cs) SG lf (C108_1 cs lf ) n (E108_1 a0 a1 a2 a3 b s') (H108_1 a0 a1 a2 a3 b s')) = L108_1 cs lf a0 a1 a2 a3 b  n:=funext (L108_1_eq cs lf a0 a1 a2 a3 b   n)
  rw [B108_1_eq cs lf a0 a1 a2 a3 b   n s,h1]
  rfl
noncomputable def G108 (cs:Oracle) (lf:Nat) (a0:List UInt8) (a1 a2 a3 b:List D) (P108_1:(Int) → Option (S.Hms.T [.int .i64])) : Option (S.Hms.T [.int .i64]) :=
 P108_1  ((0:Int))
theorem G108_eq (cs:Oracle) (lf:Nat) (a0:List UInt8) (a1 a2 a3 b:List D) : S.bodyS T SG cs fi108 lf [.im (.agg [(.str a0),(.sl false 1 a1),(.sl false 2 a2),(.sl false 7 a3)]),.im (.sl false 5 b)] [] (S.endP [.int .i64]) = G108 cs lf a0 a1 a2 a3 b (fun  s2=>S.roundsZ (X108 cs) SG lf (C108_1 cs lf) lf (E108_1 a0 a1 a2 a3 b s2) (H108_1 a0 a1 a2 a3 b s2)):=by
 kernel_rfl
noncomputable def F108 (cs:Oracle) (lf:Nat) (a0:List UInt8) (a1 a2 a3 b:List D) : Option (S.Hms.T [.int .i64]):=G108 cs lf a0 a1 a2 a3 b (fun  s2=>L108_1 cs lf a0 a1 a2 a3 b lf s2)
theorem F108_eq (cs:Oracle) (lf:Nat) (a0:List UInt8) (a1 a2 a3 b:List D) : S.bodyS T SG cs fi108 lf [.im (.agg [(.str a0),(.sl false 1 a1),(.sl false 2 a2),(.sl false 7 a3)]),.im (.sl false 5 b)] [] (S.endP [.int .i64]) = F108 cs lf a0 a1 a2 a3 b:=by
 rw [G108_eq]
 have h108_1 : (fun  s2=>S.roundsZ (X108 cs) SG lf (C108_1 cs lf) lf (E108_1 a0 a1 a2 a3 b s2) (H108_1 a0 a1 a2 a3 b s2)) = (fun  s2=>L108_1 cs lf a0 a1 a2 a3 b lf s2):=by
  funext  s2
  exact L108_1_eq cs lf a0 a1 a2 a3 b lf s2
 rw [h108_1]
 rfl
theorem fi108_ok : fi108.ok Tryz.prog 108:=⟨Tryz.func108,by decide,rfl,by rfl⟩
end Go.Proofs.YtkinbnepkpoofaaGreatDoor
/- (*billhook/check.checker).tag: what it comes to. -/
open Go Go.AM
namespace Go.Proofs.YtkinbnepkpoofaaGreatDoor
noncomputable def fi102 : Fi:=mkFi T Tryz.f102 { keep:=isIn [100004] }
noncomputable abbrev X102 (cs:Oracle) : Px:=fi102.px T cs 2
noncomputable abbrev K102 : S.Kq (S.Hms.T [.int .i64] × KB):=S.finZ T fi102 2 (S.endS ⟨[.int .i64],[.m [.sl 4,.str,.sl 1,.sl 2,.sl 7,.bool,.mp 1],.o]⟩)
noncomputable def F102 (cs:Oracle) (lf:Nat) (b0 b1:Int) (b2 b3:List UInt8) (b4 b5 b6 p:List D) (f0:List UInt8) (f1 f2 f3:List D) (m:Bool) (t:List D) : Option (S.Hms.T [.int .i64] × KB) :=
 cond (b1 == (0:Int))
  (some ((((0:Int),()),(p,f0,f1,f2,f3,m,(),()),t,())))
  (S.optZ (S.mapGet .i64 b1 (D.int .i64 (0:Int)) t) fun (d1:D × Bool) =>
   S.optZ (D.asInt .i64 d1.1) fun (d2:Int) =>
    S.optZ (S.mapPut .i64 b1 (D.int .i64 (IntKind.wrap .i64 (d2 + (1:Int)))) t) fun (d3:List D) =>
     cond (!m)
      (none)
      (S.optZ (S.mapGet .i64 b1 (D.int .i64 (0:Int)) d3) fun (d4:D × Bool) =>
       S.optZ (D.asInt .i64 d4.1) fun (d5:Int) =>
        cond (decide (d5 > (1:Int)))
         (some ((((9:Int),()),(p,f0,f1,f2,f3,m,(),()),d3,())))
         (some ((((0:Int),()),(p,f0,f1,f2,f3,m,(),()),d3,())))))
theorem F102_eq (cs:Oracle) (lf:Nat) (b0 b1:Int) (b2 b3:List UInt8) (b4 b5 b6 p:List D) (f0:List UInt8) (f1 f2 f3:List D) (m:Bool) (t:List D) : S.bodyS T SG cs fi102 lf [.ptr 0 0 0,.im (.agg [(.int .i64 b0),(.int .i64 b1),(.str b2),(.str b3),(.sl false 5 b4),(.sl false 7 b5),(.sl false 7 b6)])] [some (.m 7 [.agg [.im (.sl false 4 p),.im (.str f0),.im (.sl false 1 f1),.im (.sl false 2 f2),.im (.sl false 7 f3),.im (.bool m),.mp 1]]),some (.o t)] (S.endS ⟨[.int .i64],[.m [.sl 4,.str,.sl 1,.sl 2,.sl 7,.bool,.mp 1],.o]⟩) = F102 cs lf b0 b1 b2 b3 b4 b5 b6 p f0 f1 f2 f3 m t:=by
 kernel_rfl
theorem fi102_ok : fi102.ok Tryz.prog 102:=⟨Tryz.func102,by decide,rfl,by rfl⟩
end Go.Proofs.YtkinbnepkpoofaaGreatDoor
/- (*billhook/check.checker).name: what it comes to. -/
open Go Go.AM
namespace Go.Proofs.YtkinbnepkpoofaaGreatDoor
noncomputable def fi104 : Fi:=mkFi T Tryz.f104 {  }
noncomputable abbrev X104 (cs:Oracle) : Px:=fi104.px T cs 2
noncomputable abbrev K104 : S.Kq (S.Hms.T [.int .i64] × KB):=S.finZ T fi104 2 (S.endS ⟨[.int .i64],[.m [.sl 4,.str,.sl 1,.sl 2,.sl 7,.bool,.mp 1],.o]⟩)
noncomputable def F104 (cs:Oracle) (lf:Nat) (b0 b1:Int) (b2 b3:List UInt8) (b4 b5 b6 p:List D) (f0:List UInt8) (f1 f2 f3:List D) (m:Bool) (t:List D) : Option (S.Hms.T [.int .i64] × KB) :=
 cond (decide (b0 > (3:Int)))
  (some ((((0:Int),()),(p,f0,f1,f2,f3,m,(),()),t,())))
  (S.optZ (S.pureS cs [S.Hm.int .i64] 64 [AV.im (D.agg [D.str f0,D.sl false 1 f1,D.sl false 2 f2,D.sl false 7 f3]),AV.im (D.str b2),AV.im (D.bool (b0 == (1:Int)))]) fun (d1:Int × Unit) =>
   some (((d1.1,()),(p,f0,f1,f2,f3,m,(),()),t,())))
theorem F104_eq (cs:Oracle) (lf:Nat) (b0 b1:Int) (b2 b3:List UInt8) (b4 b5 b6 p:List D) (f0:List UInt8) (f1 f2 f3:List D) (m:Bool) (t:List D) : S.bodyS T SG cs fi104 lf [.ptr 0 0 0,.im (.agg [(.int .i64 b0),(.int .i64 b1),(.str b2),(.str b3),(.sl false 5 b4),(.sl false 7 b5),(.sl false 7 b6)])] [some (.m 7 [.agg [.im (.sl false 4 p),.im (.str f0),.im (.sl false 1 f1),.im (.sl false 2 f2),.im (.sl false 7 f3),.im (.bool m),.mp 1]]),some (.o t)] (S.endS ⟨[.int .i64],[.m [.sl 4,.str,.sl 1,.sl 2,.sl 7,.bool,.mp 1],.o]⟩) = F104 cs lf b0 b1 b2 b3 b4 b5 b6 p f0 f1 f2 f3 m t:=by
 kernel_rfl
theorem fi104_ok : fi104.ok Tryz.prog 104:=⟨Tryz.func104,by decide,rfl,by rfl⟩
end Go.Proofs.YtkinbnepkpoofaaGreatDoor
/- (*billhook/check.checker).call: what it comes to. -/
open Go Go.AM
namespace Go.Proofs.YtkinbnepkpoofaaGreatDoor
noncomputable def fi106 : Fi:=mkFi T Tryz.f106 {  }
noncomputable abbrev X106 (cs:Oracle) : Px:=fi106.px T cs 2
noncomputable abbrev K106 : S.Kq (S.Hms.T [.int .i64] × KB):=S.finZ T fi106 2 (S.endS ⟨[.int .i64],[.m [.sl 4,.str,.sl 1,.sl 2,.sl 7,.bool,.mp 1],.o]⟩)
noncomputable def F106 (cs:Oracle) (lf:Nat) (b0 b1:Int) (b2 b3:List UInt8) (b4 b5 b6 p:List D) (f0:List UInt8) (f1 f2 f3:List D) (m:Bool) (t:List D) : Option (S.Hms.T [.int .i64] × KB) :=
 cond (b0 != (3:Int))
  (some ((((0:Int),()),(p,f0,f1,f2,f3,m,(),()),t,())))
  (S.optZ (S.pureS cs [S.Hm.int .i64] 26 [AV.im (D.agg [D.sl false 4 p]),AV.im (D.str b3)]) fun (d1:Int × Unit) =>
   cond (decide (d1.1 < (0:Int)))
    (some ((((6:Int),()),(p,f0,f1,f2,f3,m,(),()),t,())))
    (cond (d1.1 == IntKind.wrap .i64 ((↑(List.length p) : Int) - (1:Int)))
     (some ((((10:Int),()),(p,f0,f1,f2,f3,m,(),()),t,())))
     (cond (decide ((0:Int) ≤ d1.1))
      (S.optZ (p[Int.toNat d1.1]?) fun (d2:D) =>
       S.optZ (S.stDec FN d2) fun (d3:FNT) =>
        cond ((↑(List.length d3.2.1) : Int) != (↑(List.length b4) : Int))
         (some ((((10:Int),()),(p,f0,f1,f2,f3,m,(),()),t,())))
         (some ((((0:Int),()),(p,f0,f1,f2,f3,m,(),()),t,()))))
      (none))))
theorem F106_eq (cs:Oracle) (lf:Nat) (b0 b1:Int) (b2 b3:List UInt8) (b4 b5 b6 p:List D) (f0:List UInt8) (f1 f2 f3:List D) (m:Bool) (t:List D) : S.bodyS T SG cs fi106 lf [.ptr 0 0 0,.im (.agg [(.int .i64 b0),(.int .i64 b1),(.str b2),(.str b3),(.sl false 5 b4),(.sl false 7 b5),(.sl false 7 b6)])] [some (.m 7 [.agg [.im (.sl false 4 p),.im (.str f0),.im (.sl false 1 f1),.im (.sl false 2 f2),.im (.sl false 7 f3),.im (.bool m),.mp 1]]),some (.o t)] (S.endS ⟨[.int .i64],[.m [.sl 4,.str,.sl 1,.sl 2,.sl 7,.bool,.mp 1],.o]⟩) = F106 cs lf b0 b1 b2 b3 b4 b5 b6 p f0 f1 f2 f3 m t:=by
 kernel_rfl
theorem fi106_ok : fi106.ok Tryz.prog 106:=⟨Tryz.func106,by decide,rfl,by rfl⟩
end Go.Proofs.YtkinbnepkpoofaaGreatDoor
/- (*billhook/check.checker).stmts: what it comes to. -/
open Go Go.AM
namespace Go.Proofs.YtkinbnepkpoofaaGreatDoor
noncomputable def fi55 : Fi:=mkFi T Tryz.f55 { live:=fun d=>if Nat.beq d 2 then slots 31 [3,5,11,12,13] else none,lend:=isIn [51] }
noncomputable abbrev X55 (cs:Oracle) : Px:=fi55.px T cs 2
noncomputable abbrev K55 : S.Kq (S.Hms.T [.int .i64] × KB):=S.finZ T fi55 2 (S.endS ⟨[.int .i64],[.m [.sl 4,.str,.sl 1,.sl 2,.sl 7,.bool,.mp 1],.o]⟩)
def E55_1 (b:List D) (c:Bool) (s:(Int) × (List D) × (List UInt8) × (List D) × (List D) × (List D) × (Bool) × (List D)) : Env :=
 match s with
 | (v1,v2,v3,v4,v5,v6,v7,v8) =>
  [AV.bad,AV.bad,AV.bad,AV.ptr 2 0 0,AV.bad,AV.ptr 3 0 0,AV.bad,AV.bad,AV.bad,AV.bad,AV.bad,AV.im (D.sl false 7 b),AV.im (D.int .i64 (↑(List.length b) : Int)),AV.im (D.int .i64 v1),AV.bad,AV.bad,AV.bad,AV.bad,AV.bad,AV.bad,AV.bad,AV.bad,AV.bad,AV.bad,AV.bad,AV.bad,AV.bad,AV.bad,AV.bad,AV.bad,AV.bad]
def H55_1 (b:List D) (c:Bool) (s:(Int) × (List D) × (List UInt8) × (List D) × (List D) × (List D) × (Bool) × (List D)) : Heap :=
 match s with
 | (v1,v2,v3,v4,v5,v6,v7,v8) =>
  [some (Blk.m 7 [AV.agg [AV.im (D.sl false 4 v2),AV.im (D.str v3),AV.im (D.sl false 1 v4),AV.im (D.sl false 2 v5),AV.im (D.sl false 7 v6),AV.im (D.bool v7),AV.mp 1]]),some (Blk.o v8),some (Blk.m 1 [AV.ptr 0 0 0]),some (Blk.c 1 [D.bool c])]
noncomputable def C55_1 (cs:Oracle) (lf:Nat)  : Code × S.Kq (S.Hms.T [.int .i64] × KB):=S.subZ (X55 cs) (SGI cs) lf fi55.code [1,0,1,0] [] K55
noncomputable def B55_1 (cs:Oracle) (lf:Nat) (b:List D) (c:Bool)   (s:(Int) × (List D) × (List UInt8) × (List D) × (List D) × (List D) × (Bool) × (List D)) (R9:(Int) × (List D) × (List UInt8) × (List D) × (List D) × (List D) × (Bool) × (List D) → Option (S.Hms.T [.int .i64] × KB)) : Option (S.Hms.T [.int .i64] × KB) :=
 match s with
 | (v1,v2,v3,v4,v5,v6,v7,v8) =>
  cond (decide (v1 < (↑(List.length b) : Int)))
  (cond (decide ((0:Int) ≤ v1))
   (S.optZ (b[Int.toNat v1]?) fun (d10:D) =>
    S.optZ (S.stDec ST d10) fun (d11:STT) =>
     S.optZ (S.lentS cs KS 102 [AV.ptr 0 0 0,AV.im (stD d11)] [some (Blk.m 7 [AV.agg [AV.im (D.sl false 4 v2),AV.im (D.str v3),AV.im (D.sl false 1 v4),AV.im (D.sl false 2 v5),AV.im (D.sl false 7 v6),AV.im (D.bool v7),AV.mp 1]]),some (Blk.o v8)]) fun (d12:(Int × Unit) × KX) =>
      cond (d12.1.1 != (0:Int))
       (cond (d12.1.1 != (0:Int))
        (some (((d12.1.1,()),KTp d12.2)))
        (R9 ((IntKind.wrap .i64 (v1 + (1:Int)),d12.2.1.1,d12.2.1.2.1,d12.2.1.2.2.1,d12.2.1.2.2.2.1,d12.2.1.2.2.2.2.1,d12.2.1.2.2.2.2.2.1,d12.2.2.1))))
       (cond (Prod.fst (d11.1,d11.2.1,d11.2.2.1,d11.2.2.2.1,d11.2.2.2.2.1,d11.2.2.2.2.2.1,d11.2.2.2.2.2.2) == (6:Int))
        (cond (!c)
         (some ((((8:Int),()),KTp d12.2)))
         (S.optZ (S.lentS cs KS 104 [AV.ptr 0 0 0,AV.im (stD d11)] (KHp d12.2)) fun (d13:(Int × Unit) × KX) =>
          cond (d13.1.1 != (0:Int))
           (cond (d13.1.1 != (0:Int))
            (some (((d13.1.1,()),KTp d13.2)))
            (R9 ((IntKind.wrap .i64 (v1 + (1:Int)),d13.2.1.1,d13.2.1.2.1,d13.2.1.2.2.1,d13.2.1.2.2.2.1,d13.2.1.2.2.2.2.1,d13.2.1.2.2.2.2.2.1,d13.2.2.1))))
           (S.optZ (S.lentS cs KS 106 [AV.ptr 0 0 0,AV.im (stD d11)] (KHp d13.2)) fun (d14:(Int × Unit) × KX) =>
            cond (d14.1.1 != (0:Int))
             (cond (d14.1.1 != (0:Int))
              (some (((d14.1.1,()),KTp d14.2)))
              (R9 ((IntKind.wrap .i64 (v1 + (1:Int)),d14.2.1.1,d14.2.1.2.1,d14.2.1.2.2.1,d14.2.1.2.2.2.1,d14.2.1.2.2.2.2.1,d14.2.1.2.2.2.2.2.1,d14.2.2.1))))
             (S.optZ (S.pureS cs [S.Hm.int .i64] 108 [AV.im (D.agg [D.str d14.2.1.2.1,D.sl false 1 d14.2.1.2.2.1,D.sl false 2 d14.2.1.2.2.2.1,D.sl false 7 d14.2.1.2.2.2.2.1]),AV.im (D.sl false 5 d11.2.2.2.2.1)]) fun (d15:Int × Unit) =>
              cond (d15.1 != (0:Int))
               (cond (d15.1 != (0:Int))
                (some (((d15.1,()),KTp d14.2)))
                (R9 ((IntKind.wrap .i64 (v1 + (1:Int)),d14.2.1.1,d14.2.1.2.1,d14.2.1.2.2.1,d14.2.1.2.2.2.1,d14.2.1.2.2.2.2.1,d14.2.1.2.2.2.2.2.1,d14.2.2.1))))
               (cond (c)
                (S.optZ (S.lentS cs KS 55 [AV.ptr 0 0 0,AV.im (D.sl false 7 d11.2.2.2.2.2.1),AV.im (D.bool true)] (KHp d14.2)) fun (d16:(Int × Unit) × KX) =>
                 cond (d16.1.1 != (0:Int))
                  (cond (d16.1.1 != (0:Int))
                   (some (((d16.1.1,()),KTp d16.2)))
                   (R9 ((IntKind.wrap .i64 (v1 + (1:Int)),d16.2.1.1,d16.2.1.2.1,d16.2.1.2.2.1,d16.2.1.2.2.2.1,d16.2.1.2.2.2.2.1,d16.2.1.2.2.2.2.2.1,d16.2.2.1))))
                  (S.optZ (S.lentS cs KS 55 [AV.ptr 0 0 0,AV.im (D.sl false 7 d11.2.2.2.2.2.2),AV.im (D.bool c)] (KHp d16.2)) fun (d17:(Int × Unit) × KX) =>
                   cond (d17.1.1 != (0:Int))
                    (cond (d17.1.1 != (0:Int))
                     (some (((d17.1.1,()),KTp d17.2)))
                     (R9 ((IntKind.wrap .i64 (v1 + (1:Int)),d17.2.1.1,d17.2.1.2.1,d17.2.1.2.2.1,d17.2.1.2.2.2.1,d17.2.1.2.2.2.2.1,d17.2.1.2.2.2.2.2.1,d17.2.2.1))))
                    (R9 ((IntKind.wrap .i64 (v1 + (1:Int)),d17.2.1.1,d17.2.1.2.1,d17.2.1.2.2.1,d17.2.1.2.2.2.1,d17.2.1.2.2.2.2.1,d17.2.1.2.2.2.2.2.1,d17.2.2.1)))))
                (S.optZ (S.lentS cs KS 55 [AV.ptr 0 0 0,AV.im (D.sl false 7 d11.2.2.2.2.2.1),AV.im (D.bool (Prod.fst (d11.1,d11.2.1,d11.2.2.1,d11.2.2.2.1,d11.2.2.2.2.1,d11.2.2.2.2.2.1,d11.2.2.2.2.2.2) == (5:Int)))] (KHp d14.2)) fun (d18:(Int × Unit) × KX) =>
                 cond (d18.1.1 != (0:Int))
                  (cond (d18.1.1 != (0:Int))
                   (some (((d18.1.1,()),KTp d18.2)))
                   (R9 ((IntKind.wrap .i64 (v1 + (1:Int)),d18.2.1.1,d18.2.1.2.1,d18.2.1.2.2.1,d18.2.1.2.2.2.1,d18.2.1.2.2.2.2.1,d18.2.1.2.2.2.2.2.1,d18.2.2.1))))
                  (S.optZ (S.lentS cs KS 55 [AV.ptr 0 0 0,AV.im (D.sl false 7 d11.2.2.2.2.2.2),AV.im (D.bool c)] (KHp d18.2)) fun (d19:(Int × Unit) × KX) =>
                   cond (d19.1.1 != (0:Int))
                    (cond (d19.1.1 != (0:Int))
                     (some (((d19.1.1,()),KTp d19.2)))
                     (R9 ((IntKind.wrap .i64 (v1 + (1:Int)),d19.2.1.1,d19.2.1.2.1,d19.2.1.2.2.1,d19.2.1.2.2.2.1,d19.2.1.2.2.2.2.1,d19.2.1.2.2.2.2.2.1,d19.2.2.1))))
                    (R9 ((IntKind.wrap .i64 (v1 + (1:Int)),d19.2.1.1,d19.2.1.2.1,d19.2.1.2.2.1,d19.2.1.2.2.2.1,d19.2.1.2.2.2.2.1,d19.2.1.2.2.2.2.2.1,d19.2.2.1))))))))))
        (cond (Prod.fst (d11.1,d11.2.1,d11.2.2.1,d11.2.2.2.1,d11.2.2.2.2.1,d11.2.2.2.2.2.1,d11.2.2.2.2.2.2) == (7:Int))
         (cond (!c)
          (some ((((8:Int),()),KTp d12.2)))
          (S.optZ (S.lentS cs KS 104 [AV.ptr 0 0 0,AV.im (stD d11)] (KHp d12.2)) fun (d20:(Int × Unit) × KX) =>
           cond (d20.1.1 != (0:Int))
            (cond (d20.1.1 != (0:Int))
             (some (((d20.1.1,()),KTp d20.2)))
             (R9 ((IntKind.wrap .i64 (v1 + (1:Int)),d20.2.1.1,d20.2.1.2.1,d20.2.1.2.2.1,d20.2.1.2.2.2.1,d20.2.1.2.2.2.2.1,d20.2.1.2.2.2.2.2.1,d20.2.2.1))))
            (S.optZ (S.lentS cs KS 106 [AV.ptr 0 0 0,AV.im (stD d11)] (KHp d20.2)) fun (d21:(Int × Unit) × KX) =>
             cond (d21.1.1 != (0:Int))
              (cond (d21.1.1 != (0:Int))
               (some (((d21.1.1,()),KTp d21.2)))
               (R9 ((IntKind.wrap .i64 (v1 + (1:Int)),d21.2.1.1,d21.2.1.2.1,d21.2.1.2.2.1,d21.2.1.2.2.2.1,d21.2.1.2.2.2.2.1,d21.2.1.2.2.2.2.2.1,d21.2.2.1))))
              (S.optZ (S.pureS cs [S.Hm.int .i64] 108 [AV.im (D.agg [D.str d21.2.1.2.1,D.sl false 1 d21.2.1.2.2.1,D.sl false 2 d21.2.1.2.2.2.1,D.sl false 7 d21.2.1.2.2.2.2.1]),AV.im (D.sl false 5 d11.2.2.2.2.1)]) fun (d22:Int × Unit) =>
               cond (d22.1 != (0:Int))
                (cond (d22.1 != (0:Int))
                 (some (((d22.1,()),KTp d21.2)))
                 (R9 ((IntKind.wrap .i64 (v1 + (1:Int)),d21.2.1.1,d21.2.1.2.1,d21.2.1.2.2.1,d21.2.1.2.2.2.1,d21.2.1.2.2.2.2.1,d21.2.1.2.2.2.2.2.1,d21.2.2.1))))
                (cond (c)
                 (S.optZ (S.lentS cs KS 55 [AV.ptr 0 0 0,AV.im (D.sl false 7 d11.2.2.2.2.2.1),AV.im (D.bool true)] (KHp d21.2)) fun (d23:(Int × Unit) × KX) =>
                  cond (d23.1.1 != (0:Int))
                   (cond (d23.1.1 != (0:Int))
                    (some (((d23.1.1,()),KTp d23.2)))
                    (R9 ((IntKind.wrap .i64 (v1 + (1:Int)),d23.2.1.1,d23.2.1.2.1,d23.2.1.2.2.1,d23.2.1.2.2.2.1,d23.2.1.2.2.2.2.1,d23.2.1.2.2.2.2.2.1,d23.2.2.1))))
                   (S.optZ (S.lentS cs KS 55 [AV.ptr 0 0 0,AV.im (D.sl false 7 d11.2.2.2.2.2.2),AV.im (D.bool c)] (KHp d23.2)) fun (d24:(Int × Unit) × KX) =>
                    cond (d24.1.1 != (0:Int))
                     (cond (d24.1.1 != (0:Int))
                      (some (((d24.1.1,()),KTp d24.2)))
                      (R9 ((IntKind.wrap .i64 (v1 + (1:Int)),d24.2.1.1,d24.2.1.2.1,d24.2.1.2.2.1,d24.2.1.2.2.2.1,d24.2.1.2.2.2.2.1,d24.2.1.2.2.2.2.2.1,d24.2.2.1))))
                     (R9 ((IntKind.wrap .i64 (v1 + (1:Int)),d24.2.1.1,d24.2.1.2.1,d24.2.1.2.2.1,d24.2.1.2.2.2.1,d24.2.1.2.2.2.2.1,d24.2.1.2.2.2.2.2.1,d24.2.2.1)))))
                 (S.optZ (S.lentS cs KS 55 [AV.ptr 0 0 0,AV.im (D.sl false 7 d11.2.2.2.2.2.1),AV.im (D.bool (Prod.fst (d11.1,d11.2.1,d11.2.2.1,d11.2.2.2.1,d11.2.2.2.2.1,d11.2.2.2.2.2.1,d11.2.2.2.2.2.2) == (5:Int)))] (KHp d21.2)) fun (d25:(Int × Unit) × KX) =>
                  cond (d25.1.1 != (0:Int))
                   (cond (d25.1.1 != (0:Int))
                    (some (((d25.1.1,()),KTp d25.2)))
                    (R9 ((IntKind.wrap .i64 (v1 + (1:Int)),d25.2.1.1,d25.2.1.2.1,d25.2.1.2.2.1,d25.2.1.2.2.2.1,d25.2.1.2.2.2.2.1,d25.2.1.2.2.2.2.2.1,d25.2.2.1))))
                   (S.optZ (S.lentS cs KS 55 [AV.ptr 0 0 0,AV.im (D.sl false 7 d11.2.2.2.2.2.2),AV.im (D.bool c)] (KHp d25.2)) fun (d26:(Int × Unit) × KX) =>
                    cond (d26.1.1 != (0:Int))
                     (cond (d26.1.1 != (0:Int))
                      (some (((d26.1.1,()),KTp d26.2)))
                      (R9 ((IntKind.wrap .i64 (v1 + (1:Int)),d26.2.1.1,d26.2.1.2.1,d26.2.1.2.2.1,d26.2.1.2.2.2.1,d26.2.1.2.2.2.2.1,d26.2.1.2.2.2.2.2.1,d26.2.2.1))))
                     (R9 ((IntKind.wrap .i64 (v1 + (1:Int)),d26.2.1.1,d26.2.1.2.1,d26.2.1.2.2.1,d26.2.1.2.2.2.1,d26.2.1.2.2.2.2.1,d26.2.1.2.2.2.2.2.1,d26.2.2.1))))))))))
         (S.optZ (S.lentS cs KS 104 [AV.ptr 0 0 0,AV.im (stD d11)] (KHp d12.2)) fun (d27:(Int × Unit) × KX) =>
          cond (d27.1.1 != (0:Int))
           (cond (d27.1.1 != (0:Int))
            (some (((d27.1.1,()),KTp d27.2)))
            (R9 ((IntKind.wrap .i64 (v1 + (1:Int)),d27.2.1.1,d27.2.1.2.1,d27.2.1.2.2.1,d27.2.1.2.2.2.1,d27.2.1.2.2.2.2.1,d27.2.1.2.2.2.2.2.1,d27.2.2.1))))
           (S.optZ (S.lentS cs KS 106 [AV.ptr 0 0 0,AV.im (stD d11)] (KHp d27.2)) fun (d28:(Int × Unit) × KX) =>
            cond (d28.1.1 != (0:Int))
             (cond (d28.1.1 != (0:Int))
              (some (((d28.1.1,()),KTp d28.2)))
              (R9 ((IntKind.wrap .i64 (v1 + (1:Int)),d28.2.1.1,d28.2.1.2.1,d28.2.1.2.2.1,d28.2.1.2.2.2.1,d28.2.1.2.2.2.2.1,d28.2.1.2.2.2.2.2.1,d28.2.2.1))))
             (S.optZ (S.pureS cs [S.Hm.int .i64] 108 [AV.im (D.agg [D.str d28.2.1.2.1,D.sl false 1 d28.2.1.2.2.1,D.sl false 2 d28.2.1.2.2.2.1,D.sl false 7 d28.2.1.2.2.2.2.1]),AV.im (D.sl false 5 d11.2.2.2.2.1)]) fun (d29:Int × Unit) =>
              cond (d29.1 != (0:Int))
               (cond (d29.1 != (0:Int))
                (some (((d29.1,()),KTp d28.2)))
                (R9 ((IntKind.wrap .i64 (v1 + (1:Int)),d28.2.1.1,d28.2.1.2.1,d28.2.1.2.2.1,d28.2.1.2.2.2.1,d28.2.1.2.2.2.2.1,d28.2.1.2.2.2.2.2.1,d28.2.2.1))))
               (cond (c)
                (S.optZ (S.lentS cs KS 55 [AV.ptr 0 0 0,AV.im (D.sl false 7 d11.2.2.2.2.2.1),AV.im (D.bool true)] (KHp d28.2)) fun (d30:(Int × Unit) × KX) =>
                 cond (d30.1.1 != (0:Int))
                  (cond (d30.1.1 != (0:Int))
                   (some (((d30.1.1,()),KTp d30.2)))
                   (R9 ((IntKind.wrap .i64 (v1 + (1:Int)),d30.2.1.1,d30.2.1.2.1,d30.2.1.2.2.1,d30.2.1.2.2.2.1,d30.2.1.2.2.2.2.1,d30.2.1.2.2.2.2.2.1,d30.2.2.1))))
                  (S.optZ (S.lentS cs KS 55 [AV.ptr 0 0 0,AV.im (D.sl false 7 d11.2.2.2.2.2.2),AV.im (D.bool c)] (KHp d30.2)) fun (d31:(Int × Unit) × KX) =>
                   cond (d31.1.1 != (0:Int))
                    (cond (d31.1.1 != (0:Int))
                     (some (((d31.1.1,()),KTp d31.2)))
                     (R9 ((IntKind.wrap .i64 (v1 + (1:Int)),d31.2.1.1,d31.2.1.2.1,d31.2.1.2.2.1,d31.2.1.2.2.2.1,d31.2.1.2.2.2.2.1,d31.2.1.2.2.2.2.2.1,d31.2.2.1))))
                    (R9 ((IntKind.wrap .i64 (v1 + (1:Int)),d31.2.1.1,d31.2.1.2.1,d31.2.1.2.2.1,d31.2.1.2.2.2.1,d31.2.1.2.2.2.2.1,d31.2.1.2.2.2.2.2.1,d31.2.2.1)))))
                (S.optZ (S.lentS cs KS 55 [AV.ptr 0 0 0,AV.im (D.sl false 7 d11.2.2.2.2.2.1),AV.im (D.bool (Prod.fst (d11.1,d11.2.1,d11.2.2.1,d11.2.2.2.1,d11.2.2.2.2.1,d11.2.2.2.2.2.1,d11.2.2.2.2.2.2) == (5:Int)))] (KHp d28.2)) fun (d32:(Int × Unit) × KX) =>
                 cond (d32.1.1 != (0:Int))
                  (cond (d32.1.1 != (0:Int))
                   (some (((d32.1.1,()),KTp d32.2)))
                   (R9 ((IntKind.wrap .i64 (v1 + (1:Int)),d32.2.1.1,d32.2.1.2.1,d32.2.1.2.2.1,d32.2.1.2.2.2.1,d32.2.1.2.2.2.2.1,d32.2.1.2.2.2.2.2.1,d32.2.2.1))))
                  (S.optZ (S.lentS cs KS 55 [AV.ptr 0 0 0,AV.im (D.sl false 7 d11.2.2.2.2.2.2),AV.im (D.bool c)] (KHp d32.2)) fun (d33:(Int × Unit) × KX) =>
                   cond (d33.1.1 != (0:Int))
                    (cond (d33.1.1 != (0:Int))
                     (some (((d33.1.1,()),KTp d33.2)))
                     (R9 ((IntKind.wrap .i64 (v1 + (1:Int)),d33.2.1.1,d33.2.1.2.1,d33.2.1.2.2.1,d33.2.1.2.2.2.1,d33.2.1.2.2.2.2.1,d33.2.1.2.2.2.2.2.1,d33.2.2.1))))
                    (R9 ((IntKind.wrap .i64 (v1 + (1:Int)),d33.2.1.1,d33.2.1.2.1,d33.2.1.2.2.1,d33.2.1.2.2.2.1,d33.2.1.2.2.2.2.1,d33.2.1.2.2.2.2.2.1,d33.2.2.1))))))))))))
   (none))
  (some ((((0:Int),()),(v2,v3,v4,v5,v6,v7,(),()),v8,())))
theorem B55_1_eq (cs:Oracle) (lf:Nat) (b:List D) (c:Bool) (n:Nat) (s:(Int) × (List D) × (List UInt8) × (List D) × (List D) × (List D) × (Bool) × (List D)) : S.roundsZ (X55 cs) (SGI cs) lf (C55_1 cs lf ) (n + 1) (E55_1 b c s) (H55_1 b c s) = B55_1 cs lf b c   s (fun s'=>S.roundsZ (X55 cs) (SGI cs) lf (C55_1 cs lf ) n (E55_1 b c s') (H55_1 b c s')):=by
 kernel_rfl
noncomputable def L55_1 (cs:Oracle) (lf:Nat) (b:List D) (c:Bool)  : Nat → (Int) × (List D) × (List UInt8) × (List D) × (List D) × (List D) × (Bool) × (List D) → Option (S.Hms.T [.int .i64] × KB)
 | 0,_=>none
 | n + 1,s=>B55_1 cs lf b c   s (L55_1 cs lf b c  n)
theorem L55_1_eq (cs:Oracle) (lf:Nat) (b:List D) (c:Bool)   : ∀ (n:Nat) (s:(Int) × (List D) × (List UInt8) × (List D) × (List D) × (List D) × (Bool) × (List D)),S.roundsZ (X55 cs) (SGI cs) lf (C55_1 cs lf ) n (E55_1 b c s) (H55_1 b c s) = L55_1 cs lf b c  n s
 | 0,s=>by
  show _ = none
  kernel_rfl
 | n + 1,s=>by
  have h1 : (fun s'=>S.roundsZ (X55 cs) (SGI cs) lf (C55_1 cs lf ) n (E55_1 b c s') (H55_1 b c s')) = L55_1 cs lf b c  n:=funext (L55_1_eq cs lf b c   n)
  rw [B55_1_eq cs lf b c   n s,h1]
  rfl
noncomputable def G55 (cs:Oracle) (lf:Nat) (b:List D) (c:Bool) (p:List D) (f0:List UInt8) (f1 f2 f3:List D) (m:Bool) (t:List D) (P55_1:(Int) × (List D) × (List UInt8) × (List D) × (List D) × (List D) × (Bool) × (List D) → Option (S.Hms.T [.int .i64] × KB)) : Option (S.Hms.T [.int .i64] × KB) :=
 P55_1  (((0:Int),p,f0,f1,f2,f3,m,t))
theorem G55_eq (cs:Oracle) (lf:Nat) (b:List D) (c:Bool) (p:List D) (f0:List UInt8) (f1 f2 f3:List D) (m:Bool) (t:List D) : S.bodyS T (SGI cs) cs fi55 lf [.ptr 0 0 0,.im (.sl false 7 b),.im (.bool c)] [some (.m 7 [.agg [.im (.sl false 4 p),.im (.str f0),.im (.sl false 1 f1),.im (.sl false 2 f2),.im (.sl false 7 f3),.im (.bool m),.mp 1]]),some (.o t)] (S.endS ⟨[.int .i64],[.m [.sl 4,.str,.sl 1,.sl 2,.sl 7,.bool,.mp 1],.o]⟩) = G55 cs lf b c p f0 f1 f2 f3 m t (fun  s2=>S.roundsZ (X55 cs) (SGI cs) lf (C55_1 cs lf) lf (E55_1 b c s2) (H55_1 b c s2)):=by
 kernel_rfl
noncomputable def F55 (cs:Oracle) (lf:Nat) (b:List D) (c:Bool) (p:List D) (f0:List UInt8) (f1 f2 f3:List D) (m:Bool) (t:List D) : Option (S.Hms.T [.int .i64] × KB):=G55 cs lf b c p f0 f1 f2 f3 m t (fun  s2=>L55_1 cs lf b c lf s2)
theorem F55_eq (cs:Oracle) (lf:Nat) (b:List D) (c:Bool) (p:List D) (f0:List UInt8) (f1 f2 f3:List D) (m:Bool) (t:List D) : S.bodyS T (SGI cs) cs fi55 lf [.ptr 0 0 0,.im (.sl false 7 b),.im (.bool c)] [some (.m 7 [.agg [.im (.sl false 4 p),.im (.str f0),.im (.sl false 1 f1),.im (.sl false 2 f2),.im (.sl false 7 f3),.im (.bool m),.mp 1]]),some (.o t)] (S.endS ⟨[.int .i64],[.m [.sl 4,.str,.sl 1,.sl 2,.sl 7,.bool,.mp 1],.o]⟩) = F55 cs lf b c p f0 f1 f2 f3 m t:=by
 rw [G55_eq]
 have h55_1 : (fun  s2=>S.roundsZ (X55 cs) (SGI cs) lf (C55_1 cs lf) lf (E55_1 b c s2) (H55_1 b c s2)) = (fun  s2=>L55_1 cs lf b c lf s2):=by
  funext  s2
  exact L55_1_eq cs lf b c lf s2
 rw [h55_1]
 rfl
theorem fi55_ok : fi55.ok Tryz.prog 55:=⟨Tryz.func55,by decide,rfl,by rfl⟩
end Go.Proofs.YtkinbnepkpoofaaGreatDoor
/- billhook/tree.RightExpr: what it comes to. -/
open Go Go.AM
namespace Go.Proofs.YtkinbnepkpoofaaGreatDoor
noncomputable def fi213 : Fi:=mkFi T Tryz.f213 {  }
noncomputable abbrev X213 (cs:Oracle) : Px:=fi213.px T cs 0
noncomputable abbrev K213 : S.Kq (S.Hms.T [.bool]):=S.finZ T fi213 0 (S.endP [.bool])
noncomputable def F213 (cs:Oracle) (lf:Nat) (a0:Int) (a1:List UInt8) (a2:Int) (a3:List UInt8) (a4:List D) : Option (S.Hms.T [.bool]) :=
 S.optZ (S.pureS cs [S.Hm.bool] 212 [AV.im (D.sl false 5 a4),AV.im (D.fn (Fn.func 213) [] [])]) fun (d1:Bool × Unit) =>
  cond (!d1.1)
   (some ((false,())))
   (cond (a0 == (0:Int))
    (cond ((↑(List.length a4) : Int) == (0:Int))
     (cond (a1 == [])
      (cond (a2 == a2)
       (some ((a3 == [],())))
       (some ((false,()))))
      (some ((false,()))))
     (some ((false,()))))
    (cond (a0 == (1:Int))
     (cond (a0 == (1:Int))
      (S.optZ (S.pureS cs [S.Hm.bool] 123 [AV.im (D.str a3)]) fun (d2:Bool × Unit) =>
       cond (!d2.1)
        (some ((false,())))
        (cond ((↑(List.length a4) : Int) == IntKind.wrap .i64 (a0 - (1:Int)))
         (cond (a1 == [])
          (cond (a2 == (0:Int))
           (some ((a3 == a3,())))
           (some ((false,()))))
          (some ((false,()))))
         (some ((false,())))))
      (cond (a0 == (3:Int))
       (S.optZ (S.pureS cs [S.Hm.int .i64,S.Hm.bool] 262 [AV.im (D.str a1),AV.im (D.int .i64 (0:Int))]) fun (d3:Int × Bool × Unit) =>
        cond (!d3.2.1)
         (some ((false,())))
         (cond ((↑(List.length a4) : Int) == (1:Int))
          (cond (a1 == a1)
           (cond (a2 == (0:Int))
            (some ((a3 == [],())))
            (some ((false,()))))
           (some ((false,()))))
          (some ((false,())))))
       (cond (a0 == (4:Int))
        (S.optZ (S.pureS cs [S.Hm.int .i64] 263 [AV.im (D.str a1)]) fun (d4:Int × Unit) =>
         cond (d4.1 == (0:Int))
          (some ((false,())))
          (cond ((↑(List.length a4) : Int) == (2:Int))
           (cond (a1 == a1)
            (cond (a2 == (0:Int))
             (some ((a3 == [],())))
             (some ((false,()))))
            (some ((false,()))))
           (some ((false,())))))
        (some ((false,()))))))
     (cond (a0 == (2:Int))
      (S.optZ (S.pureS cs [S.Hm.bool] 123 [AV.im (D.str a3)]) fun (d5:Bool × Unit) =>
       cond (!d5.1)
        (some ((false,())))
        (cond ((↑(List.length a4) : Int) == IntKind.wrap .i64 (a0 - (1:Int)))
         (cond (a1 == [])
          (cond (a2 == (0:Int))
           (some ((a3 == a3,())))
           (some ((false,()))))
          (some ((false,()))))
         (some ((false,())))))
      (cond (a0 == (3:Int))
       (S.optZ (S.pureS cs [S.Hm.int .i64,S.Hm.bool] 262 [AV.im (D.str a1),AV.im (D.int .i64 (0:Int))]) fun (d6:Int × Bool × Unit) =>
        cond (!d6.2.1)
         (some ((false,())))
         (cond ((↑(List.length a4) : Int) == (1:Int))
          (cond (a1 == a1)
           (cond (a2 == (0:Int))
            (some ((a3 == [],())))
            (some ((false,()))))
           (some ((false,()))))
          (some ((false,())))))
       (cond (a0 == (4:Int))
        (S.optZ (S.pureS cs [S.Hm.int .i64] 263 [AV.im (D.str a1)]) fun (d7:Int × Unit) =>
         cond (d7.1 == (0:Int))
          (some ((false,())))
          (cond ((↑(List.length a4) : Int) == (2:Int))
           (cond (a1 == a1)
            (cond (a2 == (0:Int))
             (some ((a3 == [],())))
             (some ((false,()))))
            (some ((false,()))))
           (some ((false,())))))
        (some ((false,()))))))))
theorem F213_eq (cs:Oracle) (lf:Nat) (a0:Int) (a1:List UInt8) (a2:Int) (a3:List UInt8) (a4:List D) : S.bodyS T SG cs fi213 lf [.im (.agg [(.int .i64 a0),(.str a1),(.int .i64 a2),(.str a3),(.sl false 5 a4)])] [] (S.endP [.bool]) = F213 cs lf a0 a1 a2 a3 a4:=by
 kernel_rfl
theorem fi213_ok : fi213.ok Tryz.prog 213:=⟨Tryz.func213,by decide,rfl,by rfl⟩
end Go.Proofs.YtkinbnepkpoofaaGreatDoor
/- billhook/tree.all[billhook/tree.Expr]: what it comes to. -/
open Go Go.AM
namespace Go.Proofs.YtkinbnepkpoofaaGreatDoor
noncomputable def fi212_0 : Fi:=mkFi T Tryz.f212 {  }
noncomputable abbrev X212_0 (cs:Oracle) : Px:=fi212_0.px T cs 0
noncomputable abbrev K212_0 : S.Kq (S.Hms.T [.bool]):=S.finZ T fi212_0 0 (S.endP [.bool])
noncomputable def F212_0 (cs:Oracle) (lf:Nat) (a:List D) (bg:Nat) : Option (S.Hms.T [.bool]) :=
 S.optZ (S.plainS cs [S.Hm.bool] 260 [AV.im (D.sl false 5 a),AV.fn (Fn.func 261) [] [AV.pe (D.fn (Fn.func bg) [] []) 0]]) fun (d1:Bool × Unit) =>
  some ((!d1.1,()))
theorem F212_0_eq (cs:Oracle) (lf:Nat) (a:List D) (bg:Nat) : S.bodyS T SG cs fi212_0 lf [.im (.sl false 5 a),.im (.fn (.func bg) [] [])] [] (S.endP [.bool]) = F212_0 cs lf a bg:=by
 kernel_rfl
theorem fi212_0_ok : fi212_0.ok Tryz.prog 212:=⟨Tryz.func212,by decide,rfl,by rfl⟩
end Go.Proofs.YtkinbnepkpoofaaGreatDoor
/- slices.ContainsFunc[[]billhook/tree.Expr,billhook/tree.Expr]: what it comes to. -/
open Go Go.AM
namespace Go.Proofs.YtkinbnepkpoofaaGreatDoor
noncomputable def fi260_c1 : Fi:=mkFi T Tryz.f260 {  }
noncomputable abbrev X260_c1 (cs:Oracle) : Px:=fi260_c1.px T cs 0
noncomputable abbrev K260_c1 : S.Kq (S.Hms.T [.bool]):=S.finZ T fi260_c1 0 (S.endP [.bool])
noncomputable def F260_c1 (cs:Oracle) (lf:Nat) (a:List D) (bg:Nat) (bc0:D) : Option (S.Hms.T [.bool]) :=
 S.optZ (S.pureS cs [S.Hm.int .i64] 286 [AV.im (D.sl false 5 a),AV.fn (Fn.func bg) [] [AV.pe bc0 0]]) fun (d1:Int × Unit) =>
  some ((decide (d1.1 ≥ (0:Int)),()))
theorem F260_c1_eq (cs:Oracle) (lf:Nat) (a:List D) (bg:Nat) (bc0:D) : S.bodyS T SG cs fi260_c1 lf [.im (.sl false 5 a),.fn (.func bg) [] [.pe bc0 0]] [] (S.endP [.bool]) = F260_c1 cs lf a bg bc0:=by
 kernel_rfl
theorem fi260_c1_ok : fi260_c1.ok Tryz.prog 260:=⟨Tryz.func260,by decide,rfl,by rfl⟩
end Go.Proofs.YtkinbnepkpoofaaGreatDoor
/- slices.IndexFunc[[]billhook/tree.Expr,billhook/tree.Expr]: what it comes to. -/
open Go Go.AM
namespace Go.Proofs.YtkinbnepkpoofaaGreatDoor
noncomputable def fi286_c1 : Fi:=mkFi T Tryz.f286 { live:=fun d=>if Nat.beq d 2 then slots 19 [0,1,7,8] else none }
noncomputable abbrev X286_c1 (cs:Oracle) : Px:=fi286_c1.px T cs 0
noncomputable abbrev K286_c1 : S.Kq (S.Hms.T [.int .i64]):=S.finZ T fi286_c1 0 (S.endP [.int .i64])
def E286_c1_1 (a:List D) (bg:Nat) (bc0:D) (s:(Int)) : Env :=
 match s with
 | v1 =>
  [AV.im (D.sl false 5 a),AV.fn (Fn.func bg) [] [AV.pe bc0 0],AV.bad,AV.bad,AV.bad,AV.bad,AV.bad,AV.im (D.int .i64 (↑(List.length a) : Int)),AV.im (D.int .i64 v1),AV.bad,AV.bad,AV.bad,AV.bad,AV.bad,AV.bad,AV.bad,AV.bad,AV.bad,AV.bad]
def H286_c1_1 (a:List D) (bg:Nat) (bc0:D) (s:(Int)) : Heap :=
 match s with
 | v1 =>
  []
noncomputable def C286_c1_1 (cs:Oracle) (lf:Nat)  : Code × S.Kq (S.Hms.T [.int .i64]):=S.subZ (X286_c1 cs) SG lf fi286_c1.code [1,0,1,0] [] K286_c1
noncomputable def B286_c1_1 (cs:Oracle) (lf:Nat) (a:List D) (bg:Nat) (bc0:D)   (s:(Int)) (R2:(Int) → Option (S.Hms.T [.int .i64])) : Option (S.Hms.T [.int .i64]) :=
 match s with
 | v1 =>
  cond (decide (v1 < (↑(List.length a) : Int)))
  (cond (decide ((0:Int) ≤ v1))
   (S.optZ (a[Int.toNat v1]?) fun (d3:D) =>
    S.optZ (S.stDec EX d3) fun (d4:EXT) =>
     S.optZ (S.pureS cs [S.Hm.bool] bg [AV.im (exD d4),AV.pe bc0 0]) fun (d5:Bool × Unit) =>
      cond d5.1
       (some ((v1,())))
       (R2 (IntKind.wrap .i64 (v1 + (1:Int)))))
   (none))
  (some (((-1 : Int),())))
theorem B286_c1_1_eq (cs:Oracle) (lf:Nat) (a:List D) (bg:Nat) (bc0:D) (n:Nat) (s:(Int)) : S.roundsZ (X286_c1 cs) SG lf (C286_c1_1 cs lf ) (n + 1) (E286_c1_1 a bg bc0 s) (H286_c1_1 a bg bc0 s) = B286_c1_1 cs lf a bg bc0   s (fun s'=>S.roundsZ (X286_c1 cs) SG lf (C286_c1_1 cs lf ) n (E286_c1_1 a bg bc0 s') (H286_c1_1 a bg bc0 s')):=by
 kernel_rfl
noncomputable def L286_c1_1 (cs:Oracle) (lf:Nat) (a:List D) (bg:Nat) (bc0:D)  : Nat → (Int) → Option (S.Hms.T [.int .i64])
 | 0,_=>none
 | n + 1,s=>B286_c1_1 cs lf a bg bc0   s (L286_c1_1 cs lf a bg bc0  n)
theorem L286_c1_1_eq (cs:Oracle) (lf:Nat) (a:List D) (bg:Nat) (bc0:D)   : ∀ (n:Nat) (s:(Int)),S.roundsZ (X286_c1 cs) SG lf (C286_c1_1 cs lf ) n (E286_c1_1 a bg bc0 s) (H286_c1_1 a bg bc0 s) = L286_c1_1 cs lf a bg bc0  n s
 | 0,s=>by
  show _ = none
  kernel_rfl
 | n + 1,s=>by
  have h1 : (fun s'=>S.roundsZ (X286_c1 cs) SG lf (C286_c1_1 cs lf ) n (E286_c1_1 a bg bc0 s') (H286_c1_1 a bg bc0 s')) = L286_c1_1 cs lf a bg bc0  n:=funext (L286_c1_1_eq cs lf a bg bc0   n)
  rw [B286_c1_1_eq cs lf a bg bc0   n s,h1]
  rfl
noncomputable def G286_c1 (cs:Oracle) (lf:Nat) (a:List D) (bg:Nat) (bc0:D) (P286_c1_1:(Int) → Option (S.Hms.T [.int .i64])) : Option (S.Hms.T [.int .i64]) :=
 P286_c1_1  ((0:Int))
theorem G286_c1_eq (cs:Oracle) (lf:Nat) (a:List D) (bg:Nat) (bc0:D) : S.bodyS T SG cs fi286_c1 lf [.im (.sl false 5 a),.fn (.func bg) [] [.pe bc0 0]] [] (S.endP [.int .i64]) = G286_c1 cs lf a bg bc0 (fun  s2=>S.roundsZ (X286_c1 cs) SG lf (C286_c1_1 cs lf) lf (E286_c1_1 a bg bc0 s2) (H286_c1_1 a bg bc0 s2)):=by
 kernel_rfl
noncomputable def F286_c1 (cs:Oracle) (lf:Nat) (a:List D) (bg:Nat) (bc0:D) : Option (S.Hms.T [.int .i64]):=G286_c1 cs lf a bg bc0 (fun  s2=>L286_c1_1 cs lf a bg bc0 lf s2)
theorem F286_c1_eq (cs:Oracle) (lf:Nat) (a:List D) (bg:Nat) (bc0:D) : S.bodyS T SG cs fi286_c1 lf [.im (.sl false 5 a),.fn (.func bg) [] [.pe bc0 0]] [] (S.endP [.int .i64]) = F286_c1 cs lf a bg bc0:=by
 rw [G286_c1_eq]
 have h286_c1_1 : (fun  s2=>S.roundsZ (X286_c1 cs) SG lf (C286_c1_1 cs lf) lf (E286_c1_1 a bg bc0 s2) (H286_c1_1 a bg bc0 s2)) = (fun  s2=>L286_c1_1 cs lf a bg bc0 lf s2):=by
  funext  s2
  exact L286_c1_1_eq cs lf a bg bc0 lf s2
 rw [h286_c1_1]
 rfl
theorem fi286_c1_ok : fi286_c1.ok Tryz.prog 286:=⟨Tryz.func286,by decide,rfl,by rfl⟩
end Go.Proofs.YtkinbnepkpoofaaGreatDoor
/- billhook/tree.all[billhook/tree.Expr]$1: what it comes to. -/
open Go Go.AM
namespace Go.Proofs.YtkinbnepkpoofaaGreatDoor
noncomputable def fi261 : Fi:=mkFi T Tryz.f261 {  }
noncomputable abbrev X261 (cs:Oracle) : Px:=fi261.px T cs 0
noncomputable abbrev K261 : S.Kq (S.Hms.T [.bool]):=S.finZ T fi261 0 (S.endP [.bool])
noncomputable def F261 (cs:Oracle) (lf:Nat) (a0:Int) (a1:List UInt8) (a2:Int) (a3:List UInt8) (a4:List D) (z0g:Nat) : Option (S.Hms.T [.bool]) :=
 S.optZ (S.pureS cs [S.Hm.bool] z0g [AV.im (D.agg [D.int .i64 a0,D.str a1,D.int .i64 a2,D.str a3,D.sl false 5 a4])]) fun (d1:Bool × Unit) =>
  some ((!d1.1,()))
theorem F261_eq (cs:Oracle) (lf:Nat) (a0:Int) (a1:List UInt8) (a2:Int) (a3:List UInt8) (a4:List D) (z0g:Nat) : S.bodyS T SG cs fi261 lf [.im (.agg [(.int .i64 a0),(.str a1),(.int .i64 a2),(.str a3),(.sl false 5 a4)]),.pe (.fn (.func z0g) [] []) 0] [] (S.endP [.bool]) = F261 cs lf a0 a1 a2 a3 a4 z0g:=by
 kernel_rfl
theorem fi261_ok : fi261.ok Tryz.prog 261:=⟨Tryz.func261,by decide,rfl,by rfl⟩
end Go.Proofs.YtkinbnepkpoofaaGreatDoor
/- (billhook/tree.Stmt).right: what it comes to. -/
open Go Go.AM
namespace Go.Proofs.YtkinbnepkpoofaaGreatDoor
noncomputable def fi167 : Fi:=mkFi T Tryz.f167 {  }
noncomputable abbrev X167 (cs:Oracle) : Px:=fi167.px T cs 0
noncomputable abbrev K167 : S.Kq (S.Hms.T [.bool]):=S.finZ T fi167 0 (S.endP [.bool])
noncomputable def F167 (cs:Oracle) (lf:Nat) (a0 a1:Int) (a2 a3:List UInt8) (a4 a5 a6:List D) : Option (S.Hms.T [.bool]) :=
 S.optZ (S.pureS cs [S.Hm.any] 211 [AV.im (D.agg [D.int .i64 a0,D.int .i64 a1,D.str a2,D.str a3,D.sl false 5 a4,D.sl false 7 a5,D.sl false 7 a6])]) fun (d1:D × Unit) =>
  S.optZ (S.stDec [Sc.bool,Sc.bool,Sc.bool,Sc.bool,Sc.int .i64] d1.1) fun (d2:Bool × Bool × Bool × Bool × Int) =>
   cond (decide (a1 ≥ (0:Int)))
    (cond (decide (a1 ≤ (1000000:Int)))
     (cond ((↑(List.length a4) : Int) == d2.2.2.2.2)
      (S.optZ (S.pureS cs [S.Hm.bool] 212 [AV.im (D.sl false 5 a4),AV.im (D.fn (Fn.func 213) [] [])]) fun (d3:Bool × Unit) =>
       cond d3.1
        (S.optZ (S.pureS cs [S.Hm.bool] 214 [AV.im (D.str a2),AV.im (D.bool d2.1)]) fun (d4:Bool × Unit) =>
         cond d4.1
          (S.optZ (S.pureS cs [S.Hm.bool] 214 [AV.im (D.str a3),AV.im (D.bool d2.2.1)]) fun (d5:Bool × Unit) =>
           cond d5.1
            (cond d2.2.2.1
             (cond d2.2.2.2.1
              (S.optZ (S.pureS cs [S.Hm.bool] 127 [AV.im (D.sl false 7 a5)]) fun (d6:Bool × Unit) =>
               cond d6.1
                (S.optZ (S.pureS cs [S.Hm.bool] 127 [AV.im (D.sl false 7 a6)]) fun (d7:Bool × Unit) =>
                 some ((d7.1,())))
                (some ((false,()))))
              (cond ((↑(List.length a6) : Int) == (0:Int))
               (S.optZ (S.pureS cs [S.Hm.bool] 127 [AV.im (D.sl false 7 a5)]) fun (d8:Bool × Unit) =>
                cond d8.1
                 (S.optZ (S.pureS cs [S.Hm.bool] 127 [AV.im (D.sl false 7 a6)]) fun (d9:Bool × Unit) =>
                  some ((d9.1,())))
                 (some ((false,()))))
               (some ((false,())))))
             (cond ((↑(List.length a5) : Int) == (0:Int))
              (cond d2.2.2.2.1
               (S.optZ (S.pureS cs [S.Hm.bool] 127 [AV.im (D.sl false 7 a5)]) fun (d10:Bool × Unit) =>
                cond d10.1
                 (S.optZ (S.pureS cs [S.Hm.bool] 127 [AV.im (D.sl false 7 a6)]) fun (d11:Bool × Unit) =>
                  some ((d11.1,())))
                 (some ((false,()))))
               (cond ((↑(List.length a6) : Int) == (0:Int))
                (S.optZ (S.pureS cs [S.Hm.bool] 127 [AV.im (D.sl false 7 a5)]) fun (d12:Bool × Unit) =>
                 cond d12.1
                  (S.optZ (S.pureS cs [S.Hm.bool] 127 [AV.im (D.sl false 7 a6)]) fun (d13:Bool × Unit) =>
                   some ((d13.1,())))
                  (some ((false,()))))
                (some ((false,())))))
              (some ((false,())))))
            (some ((false,()))))
          (some ((false,()))))
        (some ((false,()))))
      (some ((false,()))))
     (some ((false,()))))
    (some ((false,())))
theorem F167_eq (cs:Oracle) (lf:Nat) (a0 a1:Int) (a2 a3:List UInt8) (a4 a5 a6:List D) : S.bodyS T SG cs fi167 lf [.im (.agg [(.int .i64 a0),(.int .i64 a1),(.str a2),(.str a3),(.sl false 5 a4),(.sl false 7 a5),(.sl false 7 a6)])] [] (S.endP [.bool]) = F167 cs lf a0 a1 a2 a3 a4 a5 a6:=by
 kernel_rfl
theorem fi167_ok : fi167.ok Tryz.prog 167:=⟨Tryz.func167,by decide,rfl,by rfl⟩
end Go.Proofs.YtkinbnepkpoofaaGreatDoor
/- (billhook/tree.Stmt).form: what it comes to. -/
open Go Go.AM
namespace Go.Proofs.YtkinbnepkpoofaaGreatDoor
noncomputable def fi211 : Fi:=mkFi T Tryz.f211 {  }
noncomputable abbrev X211 (cs:Oracle) : Px:=fi211.px T cs 0
noncomputable abbrev K211 : S.Kq (S.Hms.T [.any]):=S.finZ T fi211 0 (S.endP [.any])
noncomputable def F211 (cs:Oracle) (lf:Nat) (a0 a1:Int) (a2 a3:List UInt8) (a4 a5 a6:List D) : Option (S.Hms.T [.any]) :=
 cond (a0 == (0:Int))
  (some ((D.agg [D.bool true,D.bool false,D.bool false,D.bool false,D.int .i64 (1:Int)],())))
  (cond (a0 == (1:Int))
   (some ((D.agg [D.bool true,D.bool false,D.bool false,D.bool false,D.int .i64 (2:Int)],())))
   (cond (a0 == (2:Int))
    (some ((D.agg [D.bool true,D.bool false,D.bool false,D.bool false,D.int .i64 (0:Int)],())))
    (cond (a0 == (3:Int))
     (some ((D.agg [D.bool true,D.bool true,D.bool false,D.bool false,D.int .i64 (↑(List.length a4) : Int)],())))
     (cond (a0 == (4:Int))
      (some ((D.agg [D.bool false,D.bool false,D.bool true,D.bool true,D.int .i64 (1:Int)],())))
      (cond (a0 == (5:Int))
       (some ((D.agg [D.bool false,D.bool false,D.bool true,D.bool false,D.int .i64 (1:Int)],())))
       (cond (a0 == (6:Int))
        (cond (a0 == (6:Int))
         (some ((D.agg [D.bool false,D.bool false,D.bool false,D.bool false,D.int .i64 (0:Int)],())))
         (cond (a0 == (8:Int))
          (cond (a0 == (8:Int))
           (some ((D.agg [D.bool false,D.bool false,D.bool false,D.bool false,D.int .i64 (1:Int)],())))
           (some ((D.agg [D.bool false,D.bool false,D.bool false,D.bool false,D.int .i64 (-1 : Int)],()))))
          (cond (a0 == (9:Int))
           (some ((D.agg [D.bool false,D.bool false,D.bool false,D.bool false,D.int .i64 (1:Int)],())))
           (some ((D.agg [D.bool false,D.bool false,D.bool false,D.bool false,D.int .i64 (-1 : Int)],()))))))
        (cond (a0 == (7:Int))
         (some ((D.agg [D.bool false,D.bool false,D.bool false,D.bool false,D.int .i64 (0:Int)],())))
         (cond (a0 == (8:Int))
          (cond (a0 == (8:Int))
           (some ((D.agg [D.bool false,D.bool false,D.bool false,D.bool false,D.int .i64 (1:Int)],())))
           (some ((D.agg [D.bool false,D.bool false,D.bool false,D.bool false,D.int .i64 (-1 : Int)],()))))
          (cond (a0 == (9:Int))
           (some ((D.agg [D.bool false,D.bool false,D.bool false,D.bool false,D.int .i64 (1:Int)],())))
           (some ((D.agg [D.bool false,D.bool false,D.bool false,D.bool false,D.int .i64 (-1 : Int)],()))))))))))))
theorem F211_eq (cs:Oracle) (lf:Nat) (a0 a1:Int) (a2 a3:List UInt8) (a4 a5 a6:List D) : S.bodyS T SG cs fi211 lf [.im (.agg [(.int .i64 a0),(.int .i64 a1),(.str a2),(.str a3),(.sl false 5 a4),(.sl false 7 a5),(.sl false 7 a6)])] [] (S.endP [.any]) = F211 cs lf a0 a1 a2 a3 a4 a5 a6:=by
 kernel_rfl
theorem fi211_ok : fi211.ok Tryz.prog 211:=⟨Tryz.func211,by decide,rfl,by rfl⟩
end Go.Proofs.YtkinbnepkpoofaaGreatDoor
/- billhook/tree.fits: what it comes to. -/
open Go Go.AM
namespace Go.Proofs.YtkinbnepkpoofaaGreatDoor
noncomputable def fi214 : Fi:=mkFi T Tryz.f214 {  }
noncomputable abbrev X214 (cs:Oracle) : Px:=fi214.px T cs 0
noncomputable abbrev K214 : S.Kq (S.Hms.T [.bool]):=S.finZ T fi214 0 (S.endP [.bool])
noncomputable def F214 (cs:Oracle) (lf:Nat) (a:List UInt8) (b:Bool) : Option (S.Hms.T [.bool]) :=
 cond (b)
  (S.optZ (S.pureS cs [S.Hm.bool] 123 [AV.im (D.str a)]) fun (d1:Bool × Unit) =>
   cond d1.1
    (some ((true,())))
    (cond (!b)
     (some ((a == [],())))
     (some ((false,())))))
  (cond (!b)
   (some ((a == [],())))
   (some ((false,()))))
theorem F214_eq (cs:Oracle) (lf:Nat) (a:List UInt8) (b:Bool) : S.bodyS T SG cs fi214 lf [.im (.str a),.im (.bool b)] [] (S.endP [.bool]) = F214 cs lf a b:=by
 kernel_rfl
theorem fi214_ok : fi214.ok Tryz.prog 214:=⟨Tryz.func214,by decide,rfl,by rfl⟩
end Go.Proofs.YtkinbnepkpoofaaGreatDoor
/- billhook/tree.RightStmts: what it comes to. -/
open Go Go.AM
namespace Go.Proofs.YtkinbnepkpoofaaGreatDoor
noncomputable def fi127 : Fi:=mkFi T Tryz.f127 {  }
noncomputable abbrev X127 (cs:Oracle) : Px:=fi127.px T cs 0
noncomputable abbrev K127 : S.Kq (S.Hms.T [.bool]):=S.finZ T fi127 0 (S.endP [.bool])
noncomputable def F127 (cs:Oracle) (lf:Nat) (a:List D) : Option (S.Hms.T [.bool]) :=
 S.optZ (S.pureS cs [S.Hm.bool] 166 [AV.im (D.sl false 7 a),AV.im (D.fn (Fn.func 167) [] [])]) fun (d1:Bool × Unit) =>
  some ((d1.1,()))
theorem F127_eq (cs:Oracle) (lf:Nat) (a:List D) : S.bodyS T SG cs fi127 lf [.im (.sl false 7 a)] [] (S.endP [.bool]) = F127 cs lf a:=by
 kernel_rfl
theorem fi127_ok : fi127.ok Tryz.prog 127:=⟨Tryz.func127,by decide,rfl,by rfl⟩
end Go.Proofs.YtkinbnepkpoofaaGreatDoor
/- billhook/tree.all[billhook/tree.Stmt]: what it comes to. -/
open Go Go.AM
namespace Go.Proofs.YtkinbnepkpoofaaGreatDoor
noncomputable def fi166_0 : Fi:=mkFi T Tryz.f166 {  }
noncomputable abbrev X166_0 (cs:Oracle) : Px:=fi166_0.px T cs 0
noncomputable abbrev K166_0 : S.Kq (S.Hms.T [.bool]):=S.finZ T fi166_0 0 (S.endP [.bool])
noncomputable def F166_0 (cs:Oracle) (lf:Nat) (a:List D) (bg:Nat) : Option (S.Hms.T [.bool]) :=
 S.optZ (S.plainS cs [S.Hm.bool] 115 [AV.im (D.sl false 7 a),AV.fn (Fn.func 210) [] [AV.pe (D.fn (Fn.func bg) [] []) 0]]) fun (d1:Bool × Unit) =>
  some ((!d1.1,()))
theorem F166_0_eq (cs:Oracle) (lf:Nat) (a:List D) (bg:Nat) : S.bodyS T SG cs fi166_0 lf [.im (.sl false 7 a),.im (.fn (.func bg) [] [])] [] (S.endP [.bool]) = F166_0 cs lf a bg:=by
 kernel_rfl
theorem fi166_0_ok : fi166_0.ok Tryz.prog 166:=⟨Tryz.func166,by decide,rfl,by rfl⟩
end Go.Proofs.YtkinbnepkpoofaaGreatDoor
/- slices.ContainsFunc[[]billhook/tree.Stmt,billhook/tree.Stmt]: what it comes to. -/
open Go Go.AM
namespace Go.Proofs.YtkinbnepkpoofaaGreatDoor
noncomputable def fi115_c1 : Fi:=mkFi T Tryz.f115 {  }
noncomputable abbrev X115_c1 (cs:Oracle) : Px:=fi115_c1.px T cs 0
noncomputable abbrev K115_c1 : S.Kq (S.Hms.T [.bool]):=S.finZ T fi115_c1 0 (S.endP [.bool])
noncomputable def F115_c1 (cs:Oracle) (lf:Nat) (a:List D) (bg:Nat) (bc0:D) : Option (S.Hms.T [.bool]) :=
 S.optZ (S.pureS cs [S.Hm.int .i64] 157 [AV.im (D.sl false 7 a),AV.fn (Fn.func bg) [] [AV.pe bc0 0]]) fun (d1:Int × Unit) =>
  some ((decide (d1.1 ≥ (0:Int)),()))
theorem F115_c1_eq (cs:Oracle) (lf:Nat) (a:List D) (bg:Nat) (bc0:D) : S.bodyS T SG cs fi115_c1 lf [.im (.sl false 7 a),.fn (.func bg) [] [.pe bc0 0]] [] (S.endP [.bool]) = F115_c1 cs lf a bg bc0:=by
 kernel_rfl
theorem fi115_c1_ok : fi115_c1.ok Tryz.prog 115:=⟨Tryz.func115,by decide,rfl,by rfl⟩
end Go.Proofs.YtkinbnepkpoofaaGreatDoor
/- slices.IndexFunc[[]billhook/tree.Stmt,billhook/tree.Stmt]: what it comes to. -/
open Go Go.AM
namespace Go.Proofs.YtkinbnepkpoofaaGreatDoor
noncomputable def fi157_c1 : Fi:=mkFi T Tryz.f157 { live:=fun d=>if Nat.beq d 2 then slots 19 [0,1,7,8] else none }
noncomputable abbrev X157_c1 (cs:Oracle) : Px:=fi157_c1.px T cs 0
noncomputable abbrev K157_c1 : S.Kq (S.Hms.T [.int .i64]):=S.finZ T fi157_c1 0 (S.endP [.int .i64])
def E157_c1_1 (a:List D) (bg:Nat) (bc0:D) (s:(Int)) : Env :=
 match s with
 | v1 =>
  [AV.im (D.sl false 7 a),AV.fn (Fn.func bg) [] [AV.pe bc0 0],AV.bad,AV.bad,AV.bad,AV.bad,AV.bad,AV.im (D.int .i64 (↑(List.length a) : Int)),AV.im (D.int .i64 v1),AV.bad,AV.bad,AV.bad,AV.bad,AV.bad,AV.bad,AV.bad,AV.bad,AV.bad,AV.bad]
def H157_c1_1 (a:List D) (bg:Nat) (bc0:D) (s:(Int)) : Heap :=
 match s with
 | v1 =>
  []
noncomputable def C157_c1_1 (cs:Oracle) (lf:Nat)  : Code × S.Kq (S.Hms.T [.int .i64]):=S.subZ (X157_c1 cs) SG lf fi157_c1.code [1,0,1,0] [] K157_c1
noncomputable def B157_c1_1 (cs:Oracle) (lf:Nat) (a:List D) (bg:Nat) (bc0:D)   (s:(Int)) (R2:(Int) → Option (S.Hms.T [.int .i64])) : Option (S.Hms.T [.int .i64]) :=
 match s with
 | v1 =>
  cond (decide (v1 < (↑(List.length a) : Int)))
  (cond (decide ((0:Int) ≤ v1))
   (S.optZ (a[Int.toNat v1]?) fun (d3:D) =>
    S.optZ (S.stDec ST d3) fun (d4:STT) =>
     S.optZ (S.pureS cs [S.Hm.bool] bg [AV.im (stD d4),AV.pe bc0 0]) fun (d5:Bool × Unit) =>
      cond d5.1
       (some ((v1,())))
       (R2 (IntKind.wrap .i64 (v1 + (1:Int)))))
   (none))
  (some (((-1 : Int),())))
theorem B157_c1_1_eq (cs:Oracle) (lf:Nat) (a:List D) (bg:Nat) (bc0:D) (n:Nat) (s:(Int)) : S.roundsZ (X157_c1 cs) SG lf (C157_c1_1 cs lf ) (n + 1) (E157_c1_1 a bg bc0 s) (H157_c1_1 a bg bc0 s) = B157_c1_1 cs lf a bg bc0   s (fun s'=>S.roundsZ (X157_c1 cs) SG lf (C157_c1_1 cs lf ) n (E157_c1_1 a bg bc0 s') (H157_c1_1 a bg bc0 s')):=by
 kernel_rfl
noncomputable def L157_c1_1 (cs:Oracle) (lf:Nat) (a:List D) (bg:Nat) (bc0:D)  : Nat → (Int) → Option (S.Hms.T [.int .i64])
 | 0,_=>none
 | n + 1,s=>B157_c1_1 cs lf a bg bc0   s (L157_c1_1 cs lf a bg bc0  n)
theorem L157_c1_1_eq (cs:Oracle) (lf:Nat) (a:List D) (bg:Nat) (bc0:D)   : ∀ (n:Nat) (s:(Int)),S.roundsZ (X157_c1 cs) SG lf (C157_c1_1 cs lf ) n (E157_c1_1 a bg bc0 s) (H157_c1_1 a bg bc0 s) = L157_c1_1 cs lf a bg bc0  n s
 | 0,s=>by
  show _ = none
  kernel_rfl
 | n + 1,s=>by
  have h1 : (fun s'=>S.roundsZ (X157_c1 cs) SG lf (C157_c1_1 cs lf ) n (E157_c1_1 a bg bc0 s') (H157_c1_1 a bg bc0 s')) = L157_c1_1 cs lf a bg bc0  n:=funext (L157_c1_1_eq cs lf a bg bc0   n)
  rw [B157_c1_1_eq cs lf a bg bc0   n s,h1]
  rfl
noncomputable def G157_c1 (cs:Oracle) (lf:Nat) (a:List D) (bg:Nat) (bc0:D) (P157_c1_1:(Int) → Option (S.Hms.T [.int .i64])) : Option (S.Hms.T [.int .i64]) :=
 P157_c1_1  ((0:Int))
theorem G157_c1_eq (cs:Oracle) (lf:Nat) (a:List D) (bg:Nat) (bc0:D) : S.bodyS T SG cs fi157_c1 lf [.im (.sl false 7 a),.fn (.func bg) [] [.pe bc0 0]] [] (S.endP [.int .i64]) = G157_c1 cs lf a bg bc0 (fun  s2=>S.roundsZ (X157_c1 cs) SG lf (C157_c1_1 cs lf) lf (E157_c1_1 a bg bc0 s2) (H157_c1_1 a bg bc0 s2)):=by
 kernel_rfl
noncomputable def F157_c1 (cs:Oracle) (lf:Nat) (a:List D) (bg:Nat) (bc0:D) : Option (S.Hms.T [.int .i64]):=G157_c1 cs lf a bg bc0 (fun  s2=>L157_c1_1 cs lf a bg bc0 lf s2)
theorem F157_c1_eq (cs:Oracle) (lf:Nat) (a:List D) (bg:Nat) (bc0:D) : S.bodyS T SG cs fi157_c1 lf [.im (.sl false 7 a),.fn (.func bg) [] [.pe bc0 0]] [] (S.endP [.int .i64]) = F157_c1 cs lf a bg bc0:=by
 rw [G157_c1_eq]
 have h157_c1_1 : (fun  s2=>S.roundsZ (X157_c1 cs) SG lf (C157_c1_1 cs lf) lf (E157_c1_1 a bg bc0 s2) (H157_c1_1 a bg bc0 s2)) = (fun  s2=>L157_c1_1 cs lf a bg bc0 lf s2):=by
  funext  s2
  exact L157_c1_1_eq cs lf a bg bc0 lf s2
 rw [h157_c1_1]
 rfl
theorem fi157_c1_ok : fi157_c1.ok Tryz.prog 157:=⟨Tryz.func157,by decide,rfl,by rfl⟩
end Go.Proofs.YtkinbnepkpoofaaGreatDoor
/- billhook/tree.all[billhook/tree.Stmt]$1: what it comes to. -/
open Go Go.AM
namespace Go.Proofs.YtkinbnepkpoofaaGreatDoor
noncomputable def fi210 : Fi:=mkFi T Tryz.f210 {  }
noncomputable abbrev X210 (cs:Oracle) : Px:=fi210.px T cs 0
noncomputable abbrev K210 : S.Kq (S.Hms.T [.bool]):=S.finZ T fi210 0 (S.endP [.bool])
noncomputable def F210 (cs:Oracle) (lf:Nat) (a0 a1:Int) (a2 a3:List UInt8) (a4 a5 a6:List D) (z0g:Nat) : Option (S.Hms.T [.bool]) :=
 S.optZ (S.pureS cs [S.Hm.bool] z0g [AV.im (D.agg [D.int .i64 a0,D.int .i64 a1,D.str a2,D.str a3,D.sl false 5 a4,D.sl false 7 a5,D.sl false 7 a6])]) fun (d1:Bool × Unit) =>
  some ((!d1.1,()))
theorem F210_eq (cs:Oracle) (lf:Nat) (a0 a1:Int) (a2 a3:List UInt8) (a4 a5 a6:List D) (z0g:Nat) : S.bodyS T SG cs fi210 lf [.im (.agg [(.int .i64 a0),(.int .i64 a1),(.str a2),(.str a3),(.sl false 5 a4),(.sl false 7 a5),(.sl false 7 a6)]),.pe (.fn (.func z0g) [] []) 0] [] (S.endP [.bool]) = F210 cs lf a0 a1 a2 a3 a4 a5 a6 z0g:=by
 kernel_rfl
theorem fi210_ok : fi210.ok Tryz.prog 210:=⟨Tryz.func210,by decide,rfl,by rfl⟩
end Go.Proofs.YtkinbnepkpoofaaGreatDoor
/- billhook/tree.Count: what it comes to. -/
open Go Go.AM
namespace Go.Proofs.YtkinbnepkpoofaaGreatDoor
noncomputable def fi86 : Fi:=mkFi T Tryz.f86 { live:=fun d=>if Nat.beq d 3 then slots 25 [3,8,9,10] else none }
noncomputable abbrev X86 (cs:Oracle) : Px:=fi86.px T cs 0
noncomputable abbrev K86 : S.Kq (S.Hms.T [.int .i64]):=S.finZ T fi86 0 (S.endP [.int .i64])
def E86_1 (a:List D) (s:(Int) × (Int)) : Env :=
 match s with
 | (v1,v2) =>
  [AV.bad,AV.bad,AV.bad,AV.im (D.int .i64 v1),AV.bad,AV.bad,AV.bad,AV.bad,AV.im (D.sl false 7 a),AV.im (D.int .i64 (↑(List.length a) : Int)),AV.im (D.int .i64 v2),AV.bad,AV.bad,AV.bad,AV.bad,AV.bad,AV.bad,AV.bad,AV.bad,AV.bad,AV.bad,AV.bad,AV.bad,AV.bad,AV.bad]
def H86_1 (a:List D) (s:(Int) × (Int)) : Heap :=
 match s with
 | (v1,v2) =>
  []
noncomputable def C86_1 (cs:Oracle) (lf:Nat)  : Code × S.Kq (S.Hms.T [.int .i64]):=S.subZ (X86 cs) SG lf fi86.code [1,1,0,1,0] [] K86
noncomputable def B86_1 (cs:Oracle) (lf:Nat) (a:List D)   (s:(Int) × (Int)) (R3:(Int) × (Int) → Option (S.Hms.T [.int .i64])) : Option (S.Hms.T [.int .i64]) :=
 match s with
 | (v1,v2) =>
  cond (decide (v2 < (↑(List.length a) : Int)))
  (cond (decide ((0:Int) ≤ v2))
   (S.optZ (a[Int.toNat v2]?) fun (d4:D) =>
    S.optZ (S.stDec ST d4) fun (d5:STT) =>
     S.optZ (S.pureS cs [S.Hm.int .i64] 86 [AV.im (D.sl false 7 d5.2.2.2.2.2.1)]) fun (d6:Int × Unit) =>
      S.optZ (S.pureS cs [S.Hm.int .i64] 86 [AV.im (D.sl false 7 d5.2.2.2.2.2.2)]) fun (d7:Int × Unit) =>
       R3 ((IntKind.wrap .i64 (v1 + IntKind.wrap .i64 (d6.1 + d7.1)),IntKind.wrap .i64 (v2 + (1:Int)))))
   (none))
  (some ((v1,())))
theorem B86_1_eq (cs:Oracle) (lf:Nat) (a:List D) (n:Nat) (s:(Int) × (Int)) : S.roundsZ (X86 cs) SG lf (C86_1 cs lf ) (n + 1) (E86_1 a s) (H86_1 a s) = B86_1 cs lf a   s (fun s'=>S.roundsZ (X86 cs) SG lf (C86_1 cs lf ) n (E86_1 a s') (H86_1 a s')):=by
 kernel_rfl
noncomputable def L86_1 (cs:Oracle) (lf:Nat) (a:List D)  : Nat → (Int) × (Int) → Option (S.Hms.T [.int .i64])
 | 0,_=>none
 | n + 1,s=>B86_1 cs lf a   s (L86_1 cs lf a  n)
theorem L86_1_eq (cs:Oracle) (lf:Nat) (a:List D)   : ∀ (n:Nat) (s:(Int) × (Int)),S.roundsZ (X86 cs) SG lf (C86_1 cs lf ) n (E86_1 a s) (H86_1 a s) = L86_1 cs lf a  n s
 | 0,s=>by
  show _ = none
  kernel_rfl
 | n + 1,s=>by
  have h1 : (fun s'=>S.roundsZ (X86 cs) SG lf (C86_1 cs lf ) n (E86_1 a s') (H86_1 a s')) = L86_1 cs lf a  n:=funext (L86_1_eq cs lf a   n)
  rw [B86_1_eq cs lf a   n s,h1]
  rfl
noncomputable def G86 (cs:Oracle) (lf:Nat) (a:List D) (P86_1:(Int) × (Int) → Option (S.Hms.T [.int .i64])) : Option (S.Hms.T [.int .i64]) :=
 P86_1  (((↑(List.length a) : Int),(0:Int)))
theorem G86_eq (cs:Oracle) (lf:Nat) (a:List D) : S.bodyS T SG cs fi86 lf [.im (.sl false 7 a)] [] (S.endP [.int .i64]) = G86 cs lf a (fun  s2=>S.roundsZ (X86 cs) SG lf (C86_1 cs lf) lf (E86_1 a s2) (H86_1 a s2)):=by
 kernel_rfl
noncomputable def F86 (cs:Oracle) (lf:Nat) (a:List D) : Option (S.Hms.T [.int .i64]):=G86 cs lf a (fun  s2=>L86_1 cs lf a lf s2)
theorem F86_eq (cs:Oracle) (lf:Nat) (a:List D) : S.bodyS T SG cs fi86 lf [.im (.sl false 7 a)] [] (S.endP [.int .i64]) = F86 cs lf a:=by
 rw [G86_eq]
 have h86_1 : (fun  s2=>S.roundsZ (X86 cs) SG lf (C86_1 cs lf) lf (E86_1 a s2) (H86_1 a s2)) = (fun  s2=>L86_1 cs lf a lf s2):=by
  funext  s2
  exact L86_1_eq cs lf a lf s2
 rw [h86_1]
 rfl
theorem fi86_ok : fi86.ok Tryz.prog 86:=⟨Tryz.func86,by decide,rfl,by rfl⟩
end Go.Proofs.YtkinbnepkpoofaaGreatDoor
/- billhook/tree.Right: what it comes to. -/
open Go Go.AM
namespace Go.Proofs.YtkinbnepkpoofaaGreatDoor
noncomputable def fi29 : Fi:=mkFi T Tryz.f29 {  }
noncomputable abbrev X29 (cs:Oracle) : Px:=fi29.px T cs 0
noncomputable abbrev K29 : S.Kq (S.Hms.T [.bool]):=S.finZ T fi29 0 (S.endP [.bool])
noncomputable def F29 (cs:Oracle) (lf:Nat) (a0:List D) : Option (S.Hms.T [.bool]) :=
 S.optZ (S.pureS cs [S.Hm.bool] 71 [AV.im (D.sl false 4 a0),AV.im (D.fn (Fn.func 72) [] [])]) fun (d1:Bool × Unit) =>
  some ((d1.1,()))
theorem F29_eq (cs:Oracle) (lf:Nat) (a0:List D) : S.bodyS T SG cs fi29 lf [.im (.agg [(.sl false 4 a0)])] [] (S.endP [.bool]) = F29 cs lf a0:=by
 kernel_rfl
theorem fi29_ok : fi29.ok Tryz.prog 29:=⟨Tryz.func29,by decide,rfl,by rfl⟩
end Go.Proofs.YtkinbnepkpoofaaGreatDoor
/- billhook/tree.all[billhook/tree.Func]: what it comes to. -/
open Go Go.AM
namespace Go.Proofs.YtkinbnepkpoofaaGreatDoor
noncomputable def fi71_0 : Fi:=mkFi T Tryz.f71 {  }
noncomputable abbrev X71_0 (cs:Oracle) : Px:=fi71_0.px T cs 0
noncomputable abbrev K71_0 : S.Kq (S.Hms.T [.bool]):=S.finZ T fi71_0 0 (S.endP [.bool])
noncomputable def F71_0 (cs:Oracle) (lf:Nat) (a:List D) (bg:Nat) : Option (S.Hms.T [.bool]) :=
 S.optZ (S.plainS cs [S.Hm.bool] 121 [AV.im (D.sl false 4 a),AV.fn (Fn.func 122) [] [AV.pe (D.fn (Fn.func bg) [] []) 0]]) fun (d1:Bool × Unit) =>
  some ((!d1.1,()))
theorem F71_0_eq (cs:Oracle) (lf:Nat) (a:List D) (bg:Nat) : S.bodyS T SG cs fi71_0 lf [.im (.sl false 4 a),.im (.fn (.func bg) [] [])] [] (S.endP [.bool]) = F71_0 cs lf a bg:=by
 kernel_rfl
theorem fi71_0_ok : fi71_0.ok Tryz.prog 71:=⟨Tryz.func71,by decide,rfl,by rfl⟩
end Go.Proofs.YtkinbnepkpoofaaGreatDoor
/- slices.ContainsFunc[[]billhook/tree.Func,billhook/tree.Func]: what it comes to. -/
open Go Go.AM
namespace Go.Proofs.YtkinbnepkpoofaaGreatDoor
noncomputable def fi121_c1 : Fi:=mkFi T Tryz.f121 {  }
noncomputable abbrev X121_c1 (cs:Oracle) : Px:=fi121_c1.px T cs 0
noncomputable abbrev K121_c1 : S.Kq (S.Hms.T [.bool]):=S.finZ T fi121_c1 0 (S.endP [.bool])
noncomputable def F121_c1 (cs:Oracle) (lf:Nat) (a:List D) (bg:Nat) (bc0:D) : Option (S.Hms.T [.bool]) :=
 S.optZ (S.pureS cs [S.Hm.int .i64] 67 [AV.im (D.sl false 4 a),AV.fn (Fn.func bg) [] [AV.pe bc0 0]]) fun (d1:Int × Unit) =>
  some ((decide (d1.1 ≥ (0:Int)),()))
theorem F121_c1_eq (cs:Oracle) (lf:Nat) (a:List D) (bg:Nat) (bc0:D) : S.bodyS T SG cs fi121_c1 lf [.im (.sl false 4 a),.fn (.func bg) [] [.pe bc0 0]] [] (S.endP [.bool]) = F121_c1 cs lf a bg bc0:=by
 kernel_rfl
theorem fi121_c1_ok : fi121_c1.ok Tryz.prog 121:=⟨Tryz.func121,by decide,rfl,by rfl⟩
end Go.Proofs.YtkinbnepkpoofaaGreatDoor
/- billhook/tree.all[billhook/tree.Func]$1: what it comes to. -/
open Go Go.AM
namespace Go.Proofs.YtkinbnepkpoofaaGreatDoor
noncomputable def fi122 : Fi:=mkFi T Tryz.f122 {  }
noncomputable abbrev X122 (cs:Oracle) : Px:=fi122.px T cs 0
noncomputable abbrev K122 : S.Kq (S.Hms.T [.bool]):=S.finZ T fi122 0 (S.endP [.bool])
noncomputable def F122 (cs:Oracle) (lf:Nat) (a0:List UInt8) (a1 a2 a3:List D) (z0g:Nat) : Option (S.Hms.T [.bool]) :=
 S.optZ (S.pureS cs [S.Hm.bool] z0g [AV.im (D.agg [D.str a0,D.sl false 1 a1,D.sl false 2 a2,D.sl false 7 a3])]) fun (d1:Bool × Unit) =>
  some ((!d1.1,()))
theorem F122_eq (cs:Oracle) (lf:Nat) (a0:List UInt8) (a1 a2 a3:List D) (z0g:Nat) : S.bodyS T SG cs fi122 lf [.im (.agg [(.str a0),(.sl false 1 a1),(.sl false 2 a2),(.sl false 7 a3)]),.pe (.fn (.func z0g) [] []) 0] [] (S.endP [.bool]) = F122 cs lf a0 a1 a2 a3 z0g:=by
 kernel_rfl
theorem fi122_ok : fi122.ok Tryz.prog 122:=⟨Tryz.func122,by decide,rfl,by rfl⟩
end Go.Proofs.YtkinbnepkpoofaaGreatDoor
/- (billhook/tree.Func).right: what it comes to. -/
open Go Go.AM
namespace Go.Proofs.YtkinbnepkpoofaaGreatDoor
noncomputable def fi72 : Fi:=mkFi T Tryz.f72 {  }
noncomputable abbrev X72 (cs:Oracle) : Px:=fi72.px T cs 0
noncomputable abbrev K72 : S.Kq (S.Hms.T [.bool]):=S.finZ T fi72 0 (S.endP [.bool])
noncomputable def F72 (cs:Oracle) (lf:Nat) (a0:List UInt8) (a1 a2 a3:List D) : Option (S.Hms.T [.bool]) :=
 S.optZ (S.pureS cs [S.Hm.bool] 123 [AV.im (D.str a0)]) fun (d1:Bool × Unit) =>
  cond d1.1
   (S.optZ (S.pureS cs [S.Hm.bool] 124 [AV.im (D.sl false 1 a1),AV.im (D.fn (Fn.func 123) [] [])]) fun (d2:Bool × Unit) =>
    cond d2.1
     (S.optZ (S.pureS cs [S.Hm.bool] 125 [AV.im (D.sl false 2 a2),AV.im (D.fn (Fn.func 126) [] [])]) fun (d3:Bool × Unit) =>
      cond d3.1
       (S.optZ (S.pureS cs [S.Hm.bool] 127 [AV.im (D.sl false 7 a3)]) fun (d4:Bool × Unit) =>
        some ((d4.1,())))
       (some ((false,()))))
     (some ((false,()))))
   (some ((false,())))
theorem F72_eq (cs:Oracle) (lf:Nat) (a0:List UInt8) (a1 a2 a3:List D) : S.bodyS T SG cs fi72 lf [.im (.agg [(.str a0),(.sl false 1 a1),(.sl false 2 a2),(.sl false 7 a3)])] [] (S.endP [.bool]) = F72 cs lf a0 a1 a2 a3:=by
 kernel_rfl
theorem fi72_ok : fi72.ok Tryz.prog 72:=⟨Tryz.func72,by decide,rfl,by rfl⟩
end Go.Proofs.YtkinbnepkpoofaaGreatDoor
/- slices.IndexFunc[[]billhook/tree.Func,billhook/tree.Func]: what it comes to. -/
open Go Go.AM
namespace Go.Proofs.YtkinbnepkpoofaaGreatDoor
noncomputable def fi67_c1 : Fi:=mkFi T Tryz.f67 { live:=fun d=>if Nat.beq d 2 then slots 19 [0,1,7,8] else none }
noncomputable abbrev X67_c1 (cs:Oracle) : Px:=fi67_c1.px T cs 0
noncomputable abbrev K67_c1 : S.Kq (S.Hms.T [.int .i64]):=S.finZ T fi67_c1 0 (S.endP [.int .i64])
def E67_c1_1 (a:List D) (bg:Nat) (bc0:D) (s:(Int)) : Env :=
 match s with
 | v1 =>
  [AV.im (D.sl false 4 a),AV.fn (Fn.func bg) [] [AV.pe bc0 0],AV.bad,AV.bad,AV.bad,AV.bad,AV.bad,AV.im (D.int .i64 (↑(List.length a) : Int)),AV.im (D.int .i64 v1),AV.bad,AV.bad,AV.bad,AV.bad,AV.bad,AV.bad,AV.bad,AV.bad,AV.bad,AV.bad]
def H67_c1_1 (a:List D) (bg:Nat) (bc0:D) (s:(Int)) : Heap :=
 match s with
 | v1 =>
  []
noncomputable def C67_c1_1 (cs:Oracle) (lf:Nat)  : Code × S.Kq (S.Hms.T [.int .i64]):=S.subZ (X67_c1 cs) SG lf fi67_c1.code [1,0,1,0] [] K67_c1
noncomputable def B67_c1_1 (cs:Oracle) (lf:Nat) (a:List D) (bg:Nat) (bc0:D)   (s:(Int)) (R2:(Int) → Option (S.Hms.T [.int .i64])) : Option (S.Hms.T [.int .i64]) :=
 match s with
 | v1 =>
  cond (decide (v1 < (↑(List.length a) : Int)))
  (cond (decide ((0:Int) ≤ v1))
   (S.optZ (a[Int.toNat v1]?) fun (d3:D) =>
    S.optZ (S.stDec FN d3) fun (d4:FNT) =>
     S.optZ (S.pureS cs [S.Hm.bool] bg [AV.im (fnD d4),AV.pe bc0 0]) fun (d5:Bool × Unit) =>
      cond d5.1
       (some ((v1,())))
       (R2 (IntKind.wrap .i64 (v1 + (1:Int)))))
   (none))
  (some (((-1 : Int),())))
theorem B67_c1_1_eq (cs:Oracle) (lf:Nat) (a:List D) (bg:Nat) (bc0:D) (n:Nat) (s:(Int)) : S.roundsZ (X67_c1 cs) SG lf (C67_c1_1 cs lf ) (n + 1) (E67_c1_1 a bg bc0 s) (H67_c1_1 a bg bc0 s) = B67_c1_1 cs lf a bg bc0   s (fun s'=>S.roundsZ (X67_c1 cs) SG lf (C67_c1_1 cs lf ) n (E67_c1_1 a bg bc0 s') (H67_c1_1 a bg bc0 s')):=by
 kernel_rfl
noncomputable def L67_c1_1 (cs:Oracle) (lf:Nat) (a:List D) (bg:Nat) (bc0:D)  : Nat → (Int) → Option (S.Hms.T [.int .i64])
 | 0,_=>none
 | n + 1,s=>B67_c1_1 cs lf a bg bc0   s (L67_c1_1 cs lf a bg bc0  n)
theorem L67_c1_1_eq (cs:Oracle) (lf:Nat) (a:List D) (bg:Nat) (bc0:D)   : ∀ (n:Nat) (s:(Int)),S.roundsZ (X67_c1 cs) SG lf (C67_c1_1 cs lf ) n (E67_c1_1 a bg bc0 s) (H67_c1_1 a bg bc0 s) = L67_c1_1 cs lf a bg bc0  n s
 | 0,s=>by
  show _ = none
  kernel_rfl
 | n + 1,s=>by
  have h1 : (fun s'=>S.roundsZ (X67_c1 cs) SG lf (C67_c1_1 cs lf ) n (E67_c1_1 a bg bc0 s') (H67_c1_1 a bg bc0 s')) = L67_c1_1 cs lf a bg bc0  n:=funext (L67_c1_1_eq cs lf a bg bc0   n)
  rw [B67_c1_1_eq cs lf a bg bc0   n s,h1]
  rfl
noncomputable def G67_c1 (cs:Oracle) (lf:Nat) (a:List D) (bg:Nat) (bc0:D) (P67_c1_1:(Int) → Option (S.Hms.T [.int .i64])) : Option (S.Hms.T [.int .i64]) :=
 P67_c1_1  ((0:Int))
theorem G67_c1_eq (cs:Oracle) (lf:Nat) (a:List D) (bg:Nat) (bc0:D) : S.bodyS T SG cs fi67_c1 lf [.im (.sl false 4 a),.fn (.func bg) [] [.pe bc0 0]] [] (S.endP [.int .i64]) = G67_c1 cs lf a bg bc0 (fun  s2=>S.roundsZ (X67_c1 cs) SG lf (C67_c1_1 cs lf) lf (E67_c1_1 a bg bc0 s2) (H67_c1_1 a bg bc0 s2)):=by
 kernel_rfl
noncomputable def F67_c1 (cs:Oracle) (lf:Nat) (a:List D) (bg:Nat) (bc0:D) : Option (S.Hms.T [.int .i64]):=G67_c1 cs lf a bg bc0 (fun  s2=>L67_c1_1 cs lf a bg bc0 lf s2)
theorem F67_c1_eq (cs:Oracle) (lf:Nat) (a:List D) (bg:Nat) (bc0:D) : S.bodyS T SG cs fi67_c1 lf [.im (.sl false 4 a),.fn (.func bg) [] [.pe bc0 0]] [] (S.endP [.int .i64]) = F67_c1 cs lf a bg bc0:=by
 rw [G67_c1_eq]
 have h67_c1_1 : (fun  s2=>S.roundsZ (X67_c1 cs) SG lf (C67_c1_1 cs lf) lf (E67_c1_1 a bg bc0 s2) (H67_c1_1 a bg bc0 s2)) = (fun  s2=>L67_c1_1 cs lf a bg bc0 lf s2):=by
  funext  s2
  exact L67_c1_1_eq cs lf a bg bc0 lf s2
 rw [h67_c1_1]
 rfl
theorem fi67_c1_ok : fi67_c1.ok Tryz.prog 67:=⟨Tryz.func67,by decide,rfl,by rfl⟩
end Go.Proofs.YtkinbnepkpoofaaGreatDoor
/- billhook/check.whole: what it comes to. -/
open Go Go.AM
namespace Go.Proofs.YtkinbnepkpoofaaGreatDoor
noncomputable def fi50 : Fi:=mkFi T Tryz.f50 { live:=fun d=>if Nat.beq d 12 then slots 71 [1,40,41,42] else if Nat.beq d 5 then slots 71 [1,3,13,14,15] else none }
noncomputable abbrev X50 (cs:Oracle) : Px:=fi50.px T cs 0
noncomputable abbrev K50 : S.Kq (S.Hms.T [.int .i64]):=S.finZ T fi50 0 (S.endP [.int .i64])
def E50_1 (a0:List D) (s:(Int) × (Int)) : Env :=
 match s with
 | (v2,v3) =>
  [AV.bad,AV.ptr 0 0 0,AV.bad,AV.im (D.int .i64 v2),AV.bad,AV.bad,AV.bad,AV.bad,AV.bad,AV.bad,AV.bad,AV.bad,AV.bad,AV.im (D.sl false 4 a0),AV.im (D.int .i64 (↑(List.length a0) : Int)),AV.im (D.int .i64 v3),AV.bad,AV.bad,AV.bad,AV.bad,AV.bad,AV.bad,AV.bad,AV.bad,AV.bad,AV.bad,AV.bad,AV.bad,AV.bad,AV.bad,AV.bad,AV.bad,AV.bad,AV.bad,AV.bad,AV.bad,AV.bad,AV.bad,AV.bad,AV.bad,AV.bad,AV.bad,AV.bad,AV.bad,AV.bad,AV.bad,AV.bad,AV.bad,AV.bad,AV.bad,AV.bad,AV.bad,AV.bad,AV.bad,AV.bad,AV.bad,AV.bad,AV.bad,AV.bad,AV.bad,AV.bad,AV.bad,AV.bad,AV.bad,AV.bad,AV.bad,AV.bad,AV.bad,AV.bad,AV.bad,AV.bad]
def H50_1 (a0:List D) (s:(Int) × (Int)) : Heap :=
 match s with
 | (v2,v3) =>
  [some (Blk.c 1 [D.agg [D.sl false 4 a0]])]
def E50_2 (a0:List D) (s:(Int)) : Env :=
 match s with
 | v8 =>
  [AV.bad,AV.ptr 0 0 0,AV.bad,AV.bad,AV.bad,AV.bad,AV.bad,AV.bad,AV.bad,AV.bad,AV.bad,AV.bad,AV.bad,AV.bad,AV.bad,AV.bad,AV.bad,AV.bad,AV.bad,AV.bad,AV.bad,AV.bad,AV.bad,AV.bad,AV.bad,AV.bad,AV.bad,AV.bad,AV.bad,AV.bad,AV.bad,AV.bad,AV.bad,AV.bad,AV.bad,AV.bad,AV.bad,AV.bad,AV.bad,AV.bad,AV.im (D.sl false 4 a0),AV.im (D.int .i64 (↑(List.length a0) : Int)),AV.im (D.int .i64 v8),AV.bad,AV.bad,AV.bad,AV.bad,AV.bad,AV.bad,AV.bad,AV.bad,AV.bad,AV.bad,AV.bad,AV.bad,AV.bad,AV.bad,AV.bad,AV.bad,AV.bad,AV.bad,AV.bad,AV.bad,AV.bad,AV.bad,AV.bad,AV.bad,AV.bad,AV.bad,AV.bad,AV.bad]
def H50_2 (a0:List D) (s:(Int)) : Heap :=
 match s with
 | v8 =>
  [some (Blk.c 1 [D.agg [D.sl false 4 a0]])]
noncomputable def C50_2 (cs:Oracle) (lf:Nat) (R4:Env → Heap → Option (S.Hms.T [.int .i64])) : Code × S.Kq (S.Hms.T [.int .i64]):=S.subZ (X50 cs) SG lf fi50.code [1,1,1,1,1,0,1,0] [R4] K50
noncomputable def B50_2 (cs:Oracle) (lf:Nat) (a0:List D) (R4:(Int) × (Int) → Option (S.Hms.T [.int .i64]))  (s:(Int)) (R9:(Int) → Option (S.Hms.T [.int .i64])) : Option (S.Hms.T [.int .i64]) :=
 match s with
 | v8 =>
  cond (decide (v8 < (↑(List.length a0) : Int)))
  (cond (decide ((0:Int) ≤ v8))
   (S.optZ (a0[Int.toNat v8]?) fun (d10:D) =>
    S.optZ (S.stDec FN d10) fun (d11:FNT) =>
     S.optZ (S.pureS cs [S.Hm.int .i64] 26 [AV.im (D.agg [D.sl false 4 a0]),AV.im (D.str d11.1)]) fun (d12:Int × Unit) =>
      cond (d12.1 != v8)
       (some (((6:Int),())))
       (R9 (IntKind.wrap .i64 (v8 + (1:Int)))))
   (none))
  (cond (decide ((0:Int) ≤ IntKind.wrap .i64 ((↑(List.length a0) : Int) - (1:Int))))
   (S.optZ (a0[Int.toNat (IntKind.wrap .i64 ((↑(List.length a0) : Int) - (1:Int)))]?) fun (d13:D) =>
    S.optZ (S.stDec FN d13) fun (d14:FNT) =>
     cond (!Prod.fst (d14.1,d14.2.1,d14.2.2.1,d14.2.2.2) == [109,97,105,110])
      (some (((10:Int),())))
      (cond (decide ((↑(List.length (Prod.fst (Prod.snd (d14.1,d14.2.1,d14.2.2.1,d14.2.2.2)))) : Int) > (0:Int)))
       (some (((10:Int),())))
       (some (((0:Int),())))))
   (none))
theorem B50_2_eq (cs:Oracle) (lf:Nat) (a0:List D)  (R4:Env → Heap → Option (S.Hms.T [.int .i64])) (n:Nat) (s:(Int)) : S.roundsZ (X50 cs) SG lf (C50_2 cs lf R4) (n + 1) (E50_2 a0 s) (H50_2 a0 s) = B50_2 cs lf a0 (fun s1=>R4 (E50_1 a0 s1) (H50_1 a0 s1))  s (fun s'=>S.roundsZ (X50 cs) SG lf (C50_2 cs lf R4) n (E50_2 a0 s') (H50_2 a0 s')):=by
 kernel_rfl
noncomputable def L50_2 (cs:Oracle) (lf:Nat) (a0:List D) (R4:(Int) × (Int) → Option (S.Hms.T [.int .i64])) : Nat → (Int) → Option (S.Hms.T [.int .i64])
 | 0,_=>none
 | n + 1,s=>B50_2 cs lf a0 R4  s (L50_2 cs lf a0 R4 n)
theorem L50_2_eq (cs:Oracle) (lf:Nat) (a0:List D)  (R4:Env → Heap → Option (S.Hms.T [.int .i64])) : ∀ (n:Nat) (s:(Int)),S.roundsZ (X50 cs) SG lf (C50_2 cs lf R4) n (E50_2 a0 s) (H50_2 a0 s) = L50_2 cs lf a0 (fun s1=>R4 (E50_1 a0 s1) (H50_1 a0 s1)) n s
 | 0,s=>by
  show _ = none
  kernel_rfl
 | n + 1,s=>by
  have h1 : (fun s'=>S.roundsZ (X50 cs) SG lf (C50_2 cs lf R4) n (E50_2 a0 s') (H50_2 a0 s')) = L50_2 cs lf a0 (fun s1=>R4 (E50_1 a0 s1) (H50_1 a0 s1)) n:=funext (L50_2_eq cs lf a0  R4 n)
  rw [B50_2_eq cs lf a0  R4 n s,h1]
  rfl
noncomputable def C50_1 (cs:Oracle) (lf:Nat)  : Code × S.Kq (S.Hms.T [.int .i64]):=S.subZ (X50 cs) SG lf fi50.code [1,1,1,0,1,0] [] K50
noncomputable def B50_1 (cs:Oracle) (lf:Nat) (a0:List D)  (P50_2:(Int) → Option (S.Hms.T [.int .i64])) (s:(Int) × (Int)) (R4:(Int) × (Int) → Option (S.Hms.T [.int .i64])) : Option (S.Hms.T [.int .i64]) :=
 match s with
 | (v2,v3) =>
  cond (decide (v3 < (↑(List.length a0) : Int)))
  (cond (decide ((0:Int) ≤ v3))
   (S.optZ (a0[Int.toNat v3]?) fun (d5:D) =>
    S.optZ (S.stDec FN d5) fun (d6:FNT) =>
     S.optZ (S.pureS cs [S.Hm.int .i64] 86 [AV.im (D.sl false 7 d6.2.2.2)]) fun (d7:Int × Unit) =>
      R4 ((IntKind.wrap .i64 (v2 + d7.1),IntKind.wrap .i64 (v3 + (1:Int)))))
   (none))
  (cond ((↑(List.length a0) : Int) == (0:Int))
   (some (((5:Int),())))
   (cond (decide ((↑(List.length a0) : Int) > (16:Int)))
    (some (((5:Int),())))
    (cond (decide (v2 > (400:Int)))
     (some (((5:Int),())))
     (P50_2  ((0:Int))))))
theorem B50_1_eq (cs:Oracle) (lf:Nat) (a0:List D) (n:Nat) (s:(Int) × (Int)) : S.roundsZ (X50 cs) SG lf (C50_1 cs lf ) (n + 1) (E50_1 a0 s) (H50_1 a0 s) = B50_1 cs lf a0  (fun  s2=>S.roundsZ (X50 cs) SG lf (C50_2 cs lf  (fun env H=>S.roundsZ (X50 cs) SG lf (C50_1 cs lf ) n env H)) lf (E50_2 a0 s2) (H50_2 a0 s2)) s (fun s'=>S.roundsZ (X50 cs) SG lf (C50_1 cs lf ) n (E50_1 a0 s') (H50_1 a0 s')):=by
 kernel_rfl
noncomputable def L50_1 (cs:Oracle) (lf:Nat) (a0:List D)  : Nat → (Int) × (Int) → Option (S.Hms.T [.int .i64])
 | 0,_=>none
 | n + 1,s=>B50_1 cs lf a0  (fun  s2=>L50_2 cs lf a0  (L50_1 cs lf a0  n) lf s2) s (L50_1 cs lf a0  n)
theorem L50_1_eq (cs:Oracle) (lf:Nat) (a0:List D)   : ∀ (n:Nat) (s:(Int) × (Int)),S.roundsZ (X50 cs) SG lf (C50_1 cs lf ) n (E50_1 a0 s) (H50_1 a0 s) = L50_1 cs lf a0  n s
 | 0,s=>by
  show _ = none
  kernel_rfl
 | n + 1,s=>by
  have h1 : (fun s'=>S.roundsZ (X50 cs) SG lf (C50_1 cs lf ) n (E50_1 a0 s') (H50_1 a0 s')) = L50_1 cs lf a0  n:=funext (L50_1_eq cs lf a0   n)
  have h50_2 : (fun  s2=>S.roundsZ (X50 cs) SG lf (C50_2 cs lf  (fun env H=>S.roundsZ (X50 cs) SG lf (C50_1 cs lf ) n env H)) lf (E50_2 a0 s2) (H50_2 a0 s2)) = (fun  s2=>L50_2 cs lf a0  (L50_1 cs lf a0  n) lf s2):=by
   funext  s2
   exact (L50_2_eq cs lf a0   (fun env H=>S.roundsZ (X50 cs) SG lf (C50_1 cs lf ) n env H) lf s2).trans (congrArg (fun q=>L50_2 cs lf a0  q lf s2) h1)
  rw [B50_1_eq cs lf a0   n s,h50_2,h1]
  rfl
noncomputable def G50 (cs:Oracle) (lf:Nat) (a0:List D) (P50_1:(Int) × (Int) → Option (S.Hms.T [.int .i64])) : Option (S.Hms.T [.int .i64]) :=
 S.optZ (S.pureS cs [S.Hm.bool] 29 [AV.im (D.agg [D.sl false 4 a0])]) fun (d1:Bool × Unit) =>
  cond (!d1.1)
   (some (((1:Int),())))
   (P50_1  (((0:Int),(0:Int))))
theorem G50_eq (cs:Oracle) (lf:Nat) (a0:List D) : S.bodyS T SG cs fi50 lf [.im (.agg [(.sl false 4 a0)])] [] (S.endP [.int .i64]) = G50 cs lf a0 (fun  s2=>S.roundsZ (X50 cs) SG lf (C50_1 cs lf) lf (E50_1 a0 s2) (H50_1 a0 s2)):=by
 kernel_rfl
noncomputable def F50 (cs:Oracle) (lf:Nat) (a0:List D) : Option (S.Hms.T [.int .i64]):=G50 cs lf a0 (fun  s2=>L50_1 cs lf a0 lf s2)
theorem F50_eq (cs:Oracle) (lf:Nat) (a0:List D) : S.bodyS T SG cs fi50 lf [.im (.agg [(.sl false 4 a0)])] [] (S.endP [.int .i64]) = F50 cs lf a0:=by
 rw [G50_eq]
 have h50_1 : (fun  s2=>S.roundsZ (X50 cs) SG lf (C50_1 cs lf) lf (E50_1 a0 s2) (H50_1 a0 s2)) = (fun  s2=>L50_1 cs lf a0 lf s2):=by
  funext  s2
  exact L50_1_eq cs lf a0 lf s2
 rw [h50_1]
 rfl
theorem fi50_ok : fi50.ok Tryz.prog 50:=⟨Tryz.func50,by decide,rfl,by rfl⟩
end Go.Proofs.YtkinbnepkpoofaaGreatDoor
/- billhook/check.Check: what it comes to. -/
open Go Go.AM
namespace Go.Proofs.YtkinbnepkpoofaaGreatDoor
noncomputable def fi18 : Fi:=mkFi T Tryz.f18 { live:=fun d=>if Nat.beq d 5 then slots 42 [1,15,16,17] else none,lend:=isIn [51] }
noncomputable abbrev X18 (cs:Oracle) : Px:=fi18.px T cs 0
noncomputable abbrev K18 : S.Kq (S.Hms.T [.int .i64,.int .i64]):=S.finZ T fi18 0 (S.endP [.int .i64,.int .i64])
def E18_1 (a0:List D) (s:(Int)) : Env :=
 match s with
 | v2 =>
  [AV.bad,AV.ptr 0 0 0,AV.bad,AV.bad,AV.bad,AV.bad,AV.bad,AV.bad,AV.bad,AV.bad,AV.bad,AV.bad,AV.bad,AV.bad,AV.bad,AV.im (D.sl false 4 a0),AV.im (D.int .i64 (↑(List.length a0) : Int)),AV.im (D.int .i64 v2),AV.bad,AV.bad,AV.bad,AV.bad,AV.bad,AV.bad,AV.bad,AV.bad,AV.bad,AV.bad,AV.bad,AV.bad,AV.bad,AV.bad,AV.bad,AV.bad,AV.bad,AV.bad,AV.bad,AV.bad,AV.bad,AV.bad,AV.bad,AV.bad]
def H18_1 (a0:List D) (s:(Int)) : Heap :=
 match s with
 | v2 =>
  [some (Blk.c 1 [D.agg [D.sl false 4 a0]])]
noncomputable def C18_1 (cs:Oracle) (lf:Nat)  : Code × S.Kq (S.Hms.T [.int .i64,.int .i64]):=S.subZ (X18 cs) (SGI cs) lf fi18.code [1,1,0,1,0] [] K18
noncomputable def B18_1 (cs:Oracle) (lf:Nat) (a0:List D)   (s:(Int)) (R3:(Int) → Option (S.Hms.T [.int .i64,.int .i64])) : Option (S.Hms.T [.int .i64,.int .i64]) :=
 match s with
 | v2 =>
  cond (decide (v2 < (↑(List.length a0) : Int)))
  (cond (decide ((0:Int) ≤ v2))
   (S.optZ (a0[Int.toNat v2]?) fun (d4:D) =>
    S.optZ (S.stDec FN d4) fun (d5:FNT) =>
     S.optZ (S.pureS cs [S.Hm.int .i64] 53 [AV.im (fnD d5)]) fun (d6:Int × Unit) =>
      cond (d6.1 != (0:Int))
       (cond (d6.1 != (0:Int))
        (some ((d6.1,v2,())))
        (R3 (IntKind.wrap .i64 (v2 + (1:Int)))))
       (S.optZ (S.lentS cs KS 55 [AV.ptr 0 0 0,AV.im (D.sl false 7 d5.2.2.2),AV.im (D.bool false)] [some (Blk.m 7 [AV.agg [AV.im (D.sl false 4 a0),AV.im (D.str d5.1),AV.im (D.sl false 1 d5.2.1),AV.im (D.sl false 2 d5.2.2.1),AV.im (D.sl false 7 d5.2.2.2),AV.im (D.bool (v2 == IntKind.wrap .i64 ((↑(List.length a0) : Int) - (1:Int)))),AV.mp 1]]),some (Blk.o [D.int .i64 (0:Int)])]) fun (d7:(Int × Unit) × KX) =>
        cond (d7.1.1 != (0:Int))
         (cond (d7.1.1 != (0:Int))
          (some ((d7.1.1,v2,())))
          (R3 (IntKind.wrap .i64 (v2 + (1:Int)))))
         (R3 (IntKind.wrap .i64 (v2 + (1:Int))))))
   (none))
  (some (((0:Int),(-1 : Int),())))
theorem B18_1_eq (cs:Oracle) (lf:Nat) (a0:List D) (n:Nat) (s:(Int)) : S.roundsZ (X18 cs) (SGI cs) lf (C18_1 cs lf ) (n + 1) (E18_1 a0 s) (H18_1 a0 s) = B18_1 cs lf a0   s (fun s'=>S.roundsZ (X18 cs) (SGI cs) lf (C18_1 cs lf ) n (E18_1 a0 s') (H18_1 a0 s')):=by
 kernel_rfl
noncomputable def L18_1 (cs:Oracle) (lf:Nat) (a0:List D)  : Nat → (Int) → Option (S.Hms.T [.int .i64,.int .i64])
 | 0,_=>none
 | n + 1,s=>B18_1 cs lf a0   s (L18_1 cs lf a0  n)
theorem L18_1_eq (cs:Oracle) (lf:Nat) (a0:List D)   : ∀ (n:Nat) (s:(Int)),S.roundsZ (X18 cs) (SGI cs) lf (C18_1 cs lf ) n (E18_1 a0 s) (H18_1 a0 s) = L18_1 cs lf a0  n s
 | 0,s=>by
  show _ = none
  kernel_rfl
 | n + 1,s=>by
  have h1 : (fun s'=>S.roundsZ (X18 cs) (SGI cs) lf (C18_1 cs lf ) n (E18_1 a0 s') (H18_1 a0 s')) = L18_1 cs lf a0  n:=funext (L18_1_eq cs lf a0   n)
  rw [B18_1_eq cs lf a0   n s,h1]
  rfl
noncomputable def G18 (cs:Oracle) (lf:Nat) (a0:List D) (P18_1:(Int) → Option (S.Hms.T [.int .i64,.int .i64])) : Option (S.Hms.T [.int .i64,.int .i64]) :=
 S.optZ (S.pureS cs [S.Hm.int .i64] 50 [AV.im (D.agg [D.sl false 4 a0])]) fun (d1:Int × Unit) =>
  cond (d1.1 != (0:Int))
   (some ((d1.1,(-1 : Int),())))
   (P18_1  ((0:Int)))
theorem G18_eq (cs:Oracle) (lf:Nat) (a0:List D) : S.bodyS T (SGI cs) cs fi18 lf [.im (.agg [(.sl false 4 a0)])] [] (S.endP [.int .i64,.int .i64]) = G18 cs lf a0 (fun  s2=>S.roundsZ (X18 cs) (SGI cs) lf (C18_1 cs lf) lf (E18_1 a0 s2) (H18_1 a0 s2)):=by
 kernel_rfl
noncomputable def F18 (cs:Oracle) (lf:Nat) (a0:List D) : Option (S.Hms.T [.int .i64,.int .i64]):=G18 cs lf a0 (fun  s2=>L18_1 cs lf a0 lf s2)
theorem F18_eq (cs:Oracle) (lf:Nat) (a0:List D) : S.bodyS T (SGI cs) cs fi18 lf [.im (.agg [(.sl false 4 a0)])] [] (S.endP [.int .i64,.int .i64]) = F18 cs lf a0:=by
 rw [G18_eq]
 have h18_1 : (fun  s2=>S.roundsZ (X18 cs) (SGI cs) lf (C18_1 cs lf) lf (E18_1 a0 s2) (H18_1 a0 s2)) = (fun  s2=>L18_1 cs lf a0 lf s2):=by
  funext  s2
  exact L18_1_eq cs lf a0 lf s2
 rw [h18_1]
 rfl
theorem fi18_ok : fi18.ok Tryz.prog 18:=⟨Tryz.func18,by decide,rfl,by rfl⟩
end Go.Proofs.YtkinbnepkpoofaaGreatDoor