/- The counted functions of layer 21 answer the same with one more round. -/
import Derived.Test.YtgapkifgddjijaaHandDid
namespace Go.Proofs.Ytgapkifgddjijaa.Hand
open Go.RowKit Go.Proofs.YtgapkifgddjijaaW.PrintWords Go.Proofs.YtgapkifgddjijaaW.PrintLast Go.Proofs.YtgapkifgddjijaaW.PrintMore
open Go.Proofs.Ytgapkifgddjijaa.QE

theorem startl_mono : ∀ k x l t, LeO (startl k x l t) (startl (k + 1) x l t)
  | 0, _, _, _ => by intro r h; cases h
  | k + 1, x, l, t => by
    rw [startl, startl]
    exact LeO.ite (LeO.bind (LeO.refl _) (fun b => startl_mono k _ _ _)) (LeO.refl _)
theorem getl_mono : ∀ k x1 x2 x l t, LeO (getl k x1 x2 x l t) (getl (k + 1) x1 x2 x l t)
  | 0, _, _, _, _, _ => by intro r h; cases h
  | k + 1, x1, x2, x, l, t => by
    rw [getl, getl]
    exact LeO.ite (LeO.bind (LeO.refl _) (fun b => getl_mono k _ _ _ _ _)) (LeO.refl _)
theorem getf_mono (k : Nat) (x1 x2 x : Int) (l : List Int) (t p : Int) : LeO (getf k x1 x2 x l t p) (getf (k + 1) x1 x2 x l t p) := by
  unfold getf
  exact LeO.bind (LeO.refl _) (fun m => LeO.ite (LeO.bind (getl_mono _ _ _ _ _ _) (fun _ => LeO.refl _)) (LeO.bind (getl_mono _ _ _ _ _ _) (fun _ => LeO.refl _)))
theorem Newf_mono (l : List Int) (k : Nat) : LeO (Newf k l) (Newf (k + 1) l) := by
  unfold Newf
  exact LeO.ite (LeO.refl _) (LeO.bind (startl_mono _ _ _ _) (fun _ => LeO.refl _))
theorem Getf_mono (x1 x2 x : Int) (l : List Int) (t p : Int) (k : Nat) : LeO (Getf k x1 x2 x l t p) (Getf (k + 1) x1 x2 x l t p) := by
  unfold Getf
  exact LeO.bind (LeO.refl _) (fun u => LeO.ite (LeO.ite (LeO.refl _) (LeO.ite (LeO.bind (getf_mono _ _ _ _ _ _ _) (fun _ => LeO.refl _)) (LeO.refl _))) (LeO.refl _))
theorem grun_mono (k : Nat) : ∀ (ps : List Int) (x1 x2 x : Int) (l : List Int) (t : Int) (acc : List Bool), LeO (grun k x1 x2 x l t ps acc) (grun (k + 1) x1 x2 x l t ps acc)
  | [], _, _, _, _, _, _ => by simp only [grun]; exact LeO.refl _
  | p :: ps, x1, x2, x, l, t, acc => by
    simp only [grun]
    exact LeO.bind (getf_mono _ _ _ _ _ _ _) (fun q => LeO.ite (grun_mono k ps _ _ _ _ _ _) (LeO.refl _))
theorem RunDf_mono (l ps : List Int) (k : Nat) : LeO (RunDf k l ps) (RunDf (k + 1) l ps) := by
  unfold RunDf
  exact LeO.ite (LeO.refl _) (LeO.ite (LeO.refl _) (LeO.ite (LeO.refl _) (LeO.bind (startl_mono _ _ _ _) (fun _ => LeO.bind (grun_mono _ _ _ _ _ _ _ _) (fun _ => LeO.refl _)))))
theorem didl_mono : ∀ k x1 x2 x l t, LeO (didl k x1 x2 x l t) (didl (k + 1) x1 x2 x l t)
  | 0, _, _, _, _, _ => by intro r h; cases h
  | k + 1, x1, x2, x, l, t => by
    rw [didl, didl]
    exact LeO.ite (LeO.bind (LeO.refl _) (fun b => didl_mono k _ _ _ _ _)) (LeO.refl _)
theorem Didf_mono (k : Nat) (x1 x2 x : Int) (l : List Int) (t p : Int) : LeO (Didf k x1 x2 x l t p) (Didf (k + 1) x1 x2 x l t p) := by
  unfold Didf
  exact LeO.bind (LeO.refl _) (fun m => LeO.ite (LeO.bind (didl_mono _ _ _ _ _ _) (fun _ => LeO.refl _)) (LeO.bind (didl_mono _ _ _ _ _ _) (fun _ => LeO.refl _)))
end Go.Proofs.Ytgapkifgddjijaa.Hand
