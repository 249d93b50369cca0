import PyProof.Rows.All
import HandS.Lambda
import Wide.All
import OpenK.AllK
import Wide.FinOn
import HandS.ForMost
import HandS.Wide
import HandS.SortKw
import HandS.Deep
import HandS.IsInst
import HandS.Flow
import HandS.Style
import HandS.TupAny
import HandS.TupLe
import HandS.Walk
import HandS.Zip
import HandS.NoneIn
import HandS.Defaults
import HandS.Exc
import HandS.WordsExc
import HandS.Head0
import HandS.Head1
import HandS.Head2
import HandS.HeadEnd
import HandS.HeadHook1
import HandS.HeadHook2
import HandS.EndTab
import KE.DataMinMax
import HandS.More
import KE.DataFind
import HandS.Rev
import KE.GoesEnum
import PyProof.ListStr
import PyProof.TupleOfStr
import PyProof.StrBlock2
import HandS.Text
import HandS.TupSets
import KE.KeyNested
import KE.GoesMore
import KE.SortKeyHeap
import HandS.HeadHook4
import PySem.Challenge.RW_landstore_k05_sides_and_corners
import KE.SortData
set_option Elab.async false
set_option linter.all false
set_option maxRecDepth 100000
set_option maxHeartbeats 0
namespace VdL
open PySem PySem.Spec PyProof.Rows L2
def top (i : Nat) : Stmt := PySem.Challenge.pw_landstore_k05_sides_and_corners.main.body.getD i (.Pass ⟨0, 0, 0, 0⟩)
abbrev st_greatest_in_both : Stmt := top 1
abbrev st_top_of : Stmt := top 2
abbrev st_below_of : Stmt := top 3
abbrev st_common_below : Stmt := top 4
abbrev st_whole_by : Stmt := top 5
abbrev st_lines_in : Stmt := top 9
abbrev st_all_corners : Stmt := top 10
abbrev st_sides_in : Stmt := top 11
abbrev st_whole_corner : Stmt := top 12
abbrev st_common_of_corners : Stmt := top 13
abbrev st_sorted_corners : Stmt := top 14
abbrev st_each_once : Stmt := top 15
abbrev st_corners_in : Stmt := top 16
abbrev st__law_hand : Stmt := top 18
abbrev st__law_draw : Stmt := top 19
abbrev st__law_both : Stmt := top 20
abbrev st__law_part : Stmt := top 21
abbrev st__law_split : Stmt := top 22
abbrev st__law_number : Stmt := top 23
abbrev st__law_span : Stmt := top 24
abbrev st__law_corner : Stmt := top 25
abbrev st__law_points : Stmt := top 26
abbrev st__law_beside : Stmt := top 27
abbrev st__law_row : Stmt := top 28
abbrev st__law_rows : Stmt := top 29
abbrev st__law_rings : Stmt := top 30
abbrev st__law_patch : Stmt := top 31
abbrev st__law_shape : Stmt := top 32
abbrev st__law_less : Stmt := top 33
abbrev st__law_ahead : Stmt := top 34
abbrev st__law_corners : Stmt := top 35
abbrev st__law_same : Stmt := top 36
abbrev st__law_sides : Stmt := top 37
abbrev st__law_put_in : Stmt := top 38
abbrev st_law : Stmt := top 39
def d_greatest_in_both : He.DefD := ⟨("greatest_in_both", none), "greatest_in_both", "greatest_in_both", defArgs st_greatest_in_both, defBody st_greatest_in_both, defScope st_greatest_in_both, [], []⟩
def d_top_of : He.DefD := ⟨("top_of", none), "top_of", "top_of", defArgs st_top_of, defBody st_top_of, defScope st_top_of, [], []⟩
def d_below_of : He.DefD := ⟨("below_of", none), "below_of", "below_of", defArgs st_below_of, defBody st_below_of, defScope st_below_of, [], []⟩
def d_common_below : He.DefD := ⟨("common_below", none), "common_below", "common_below", defArgs st_common_below, defBody st_common_below, defScope st_common_below, [], []⟩
def d_whole_by : He.DefD := ⟨("whole_by", none), "whole_by", "whole_by", defArgs st_whole_by, defBody st_whole_by, defScope st_whole_by, [], []⟩
def d_lines_in : He.DefD := ⟨("lines_in", none), "lines_in", "lines_in", defArgs st_lines_in, defBody st_lines_in, defScope st_lines_in, [], []⟩
def d_all_corners : He.DefD := ⟨("all_corners", none), "all_corners", "all_corners", defArgs st_all_corners, defBody st_all_corners, defScope st_all_corners, [], []⟩
def d_sides_in : He.DefD := ⟨("sides_in", none), "sides_in", "sides_in", defArgs st_sides_in, defBody st_sides_in, defScope st_sides_in, [], []⟩
def d_whole_corner : He.DefD := ⟨("whole_corner", none), "whole_corner", "whole_corner", defArgs st_whole_corner, defBody st_whole_corner, defScope st_whole_corner, [], []⟩
def d_common_of_corners : He.DefD := ⟨("common_of_corners", none), "common_of_corners", "common_of_corners", defArgs st_common_of_corners, defBody st_common_of_corners, defScope st_common_of_corners, [], []⟩
def d_sorted_corners : He.DefD := ⟨("sorted_corners", none), "sorted_corners", "sorted_corners", defArgs st_sorted_corners, defBody st_sorted_corners, defScope st_sorted_corners, [], []⟩
def d_each_once : He.DefD := ⟨("each_once", none), "each_once", "each_once", defArgs st_each_once, defBody st_each_once, defScope st_each_once, [], []⟩
def d_corners_in : He.DefD := ⟨("corners_in", none), "corners_in", "corners_in", defArgs st_corners_in, defBody st_corners_in, defScope st_corners_in, [], []⟩
def d__law_hand : He.DefD := ⟨("_law_hand", none), "_law_hand", "_law_hand", defArgs st__law_hand, defBody st__law_hand, defScope st__law_hand, [], []⟩
def d__law_draw : He.DefD := ⟨("_law_draw", none), "_law_draw", "_law_draw", defArgs st__law_draw, defBody st__law_draw, defScope st__law_draw, [], []⟩
def d__law_both : He.DefD := ⟨("_law_both", none), "_law_both", "_law_both", defArgs st__law_both, defBody st__law_both, defScope st__law_both, [], []⟩
def d__law_part : He.DefD := ⟨("_law_part", none), "_law_part", "_law_part", defArgs st__law_part, defBody st__law_part, defScope st__law_part, [], []⟩
def d__law_split : He.DefD := ⟨("_law_split", none), "_law_split", "_law_split", defArgs st__law_split, defBody st__law_split, defScope st__law_split, [], []⟩
def d__law_number : He.DefD := ⟨("_law_number", none), "_law_number", "_law_number", defArgs st__law_number, defBody st__law_number, defScope st__law_number, [], []⟩
def d__law_span : He.DefD := ⟨("_law_span", none), "_law_span", "_law_span", defArgs st__law_span, defBody st__law_span, defScope st__law_span, [], []⟩
def d__law_corner : He.DefD := ⟨("_law_corner", none), "_law_corner", "_law_corner", defArgs st__law_corner, defBody st__law_corner, defScope st__law_corner, [], []⟩
def d__law_points : He.DefD := ⟨("_law_points", none), "_law_points", "_law_points", defArgs st__law_points, defBody st__law_points, defScope st__law_points, [], []⟩
def d__law_beside : He.DefD := ⟨("_law_beside", none), "_law_beside", "_law_beside", defArgs st__law_beside, defBody st__law_beside, defScope st__law_beside, [], []⟩
def d__law_row : He.DefD := ⟨("_law_row", none), "_law_row", "_law_row", defArgs st__law_row, defBody st__law_row, defScope st__law_row, [], []⟩
def d__law_rows : He.DefD := ⟨("_law_rows", none), "_law_rows", "_law_rows", defArgs st__law_rows, defBody st__law_rows, defScope st__law_rows, [], []⟩
def d__law_rings : He.DefD := ⟨("_law_rings", none), "_law_rings", "_law_rings", defArgs st__law_rings, defBody st__law_rings, defScope st__law_rings, [], []⟩
def d__law_patch : He.DefD := ⟨("_law_patch", none), "_law_patch", "_law_patch", defArgs st__law_patch, defBody st__law_patch, defScope st__law_patch, [], []⟩
def d__law_shape : He.DefD := ⟨("_law_shape", none), "_law_shape", "_law_shape", defArgs st__law_shape, defBody st__law_shape, defScope st__law_shape, [], []⟩
def d__law_less : He.DefD := ⟨("_law_less", none), "_law_less", "_law_less", defArgs st__law_less, defBody st__law_less, defScope st__law_less, [], []⟩
def d__law_ahead : He.DefD := ⟨("_law_ahead", none), "_law_ahead", "_law_ahead", defArgs st__law_ahead, defBody st__law_ahead, defScope st__law_ahead, [], []⟩
def d__law_corners : He.DefD := ⟨("_law_corners", none), "_law_corners", "_law_corners", defArgs st__law_corners, defBody st__law_corners, defScope st__law_corners, [], []⟩
def d__law_same : He.DefD := ⟨("_law_same", none), "_law_same", "_law_same", defArgs st__law_same, defBody st__law_same, defScope st__law_same, [], []⟩
def d__law_sides : He.DefD := ⟨("_law_sides", none), "_law_sides", "_law_sides", defArgs st__law_sides, defBody st__law_sides, defScope st__law_sides, [], []⟩
def d__law_put_in : He.DefD := ⟨("_law_put_in", none), "_law_put_in", "_law_put_in", defArgs st__law_put_in, defBody st__law_put_in, defScope st__law_put_in, [], []⟩
def d_law : He.DefD := ⟨("law", none), "law", "law", defArgs st_law, defBody st_law, defScope st_law, [], []⟩
def fn : List He.DefD := [d_greatest_in_both, d_top_of, d_below_of, d_common_below, d_whole_by, d_lines_in, d_all_corners, d_sides_in, d_whole_corner, d_common_of_corners, d_sorted_corners, d_each_once, d_corners_in, d__law_hand, d__law_draw, d__law_both, d__law_part, d__law_split, d__law_number, d__law_span, d__law_corner, d__law_points, d__law_beside, d__law_row, d__law_rows, d__law_rings, d__law_patch, d__law_shape, d__law_less, d__law_ahead, d__law_corners, d__law_same, d__law_sides, d__law_put_in, d_law]
def fa : List He.Fa := [.glo "greatest_in_both", .glo "top_of", .glo "below_of", .glo "common_below", .glo "whole_by", .glo "lines_in", .glo "all_corners", .glo "sides_in", .glo "whole_corner", .glo "common_of_corners", .glo "sorted_corners", .glo "each_once", .glo "corners_in", .glo "_law_hand", .glo "_law_draw", .glo "_law_both", .glo "_law_part", .glo "_law_split", .glo "_law_number", .glo "_law_span", .glo "_law_corner", .glo "_law_points", .glo "_law_beside", .glo "_law_row", .glo "_law_rows", .glo "_law_rings", .glo "_law_patch", .glo "_law_shape", .glo "_law_less", .glo "_law_ahead", .glo "_law_corners", .glo "_law_same", .glo "_law_sides", .glo "_law_put_in", .glo "law", .free "abs", .free "all", .free "bool", .free "enumerate", .free "int", .free "isinstance", .free "len", .free "list", .free "min", .free "range", .free "sorted", .free "str", .free "tuple", .free "zip", .str "PATCH" "patch", .str "POINTS" "points"]
def ts : List He.Tab := []
def tf : List He.Defn := [("sorted_corners", none)]
def ex (K : PySem.W.Frag) : Bool := decide ((He.cT K ("sorted_corners", none)).2 = 84)
abbrev R : PySem.W.OpenRow := PySem.W.OpenLaw.row PySem.Challenge.rw_landstore_k05_sides_and_corners
abbrev hk : PySem.W.Hook := He.hookX 4 fa fn ts tf ex
def ob (s : PySem.W.SharedT) : He.AlX := He.obsX 4 fa fn ts tf ex (HandSHeadRun.getT s)
theorem ob_eq (s : PySem.W.SharedT) : ob s = hk.obs s.abs := He.obsX_eq (HandSHeadRun.getT_eq s)
def loose : List PySem.Str := (["greatest_in_both", "top_of", "below_of", "common_below", "whole_by", "lines_in", "all_corners", "sides_in", "whole_corner", "common_of_corners", "sorted_corners", "each_once", "corners_in", "_law_hand", "_law_draw", "_law_both", "_law_part", "_law_split", "_law_number", "_law_span"] : List PySem.Str) ++ (["_law_corner", "_law_points", "_law_beside", "_law_row", "_law_rows", "_law_rings", "_law_patch", "_law_shape", "_law_less", "_law_ahead", "_law_corners", "_law_same", "_law_sides", "_law_put_in", "POINTS", "PATCH"] : List PySem.Str)
def steps : Nat := 100000
theorem run (w : World) : HandSHeadRun.RunEq R (PySem.W.view R.prog [39]) hk ob steps loose w := by
  intro os
  kernel_rfl
end VdL
section
namespace Vd
open PySem
def tabT : List (Addr × Str) := [(84, ("sorted_corners.<locals>.<lambda>" : PySem.Str))]
end Vd
end
section
namespace Vd
open PySem L2

inductive D where
  | non | bl (b : Bool) | int (i : Int) | str (x : Str)
  | tup (xs : List D)
  | lst (o : Bool) (xs : List D)

mutual
def D.frz : D → D
  | .non => .non | .bl b => .bl b | .int i => .int i | .str x => .str x
  | .tup xs => .tup xs
  | .lst _ xs => .lst false (frzs xs)
def frzs : List D → List D
  | [] => []
  | x :: xs => x.frz :: frzs xs
end
mutual
def D.isFz : D → Bool
  | .non => true | .bl _ => true | .int _ => true | .str _ => true
  | .tup _ => true
  | .lst o xs => !o && isFzs xs
def isFzs : List D → Bool
  | [] => true
  | x :: xs => x.isFz && isFzs xs
end
mutual
theorem frz_of : ∀ {d : D}, d.isFz = true → d.frz = d
  | .non, _ => rfl | .bl _, _ => rfl | .int _, _ => rfl | .str _, _ => rfl | .tup _, _ => rfl
  | .lst o xs, h => by
    simp only [D.isFz, Bool.and_eq_true, Bool.not_eq_true'] at h
    obtain ⟨rfl, h⟩ := h
    simp only [D.frz, frzs_of h]
theorem frzs_of : ∀ {xs : List D}, isFzs xs = true → frzs xs = xs
  | [], _ => rfl
  | x :: xs, h => by
    simp only [isFzs, Bool.and_eq_true] at h
    simp only [frzs, frz_of h.1, frzs_of h.2]
end
theorem isFzs_eq (xs : List D) : isFzs xs = xs.all D.isFz := by
  induction xs with
  | nil => rfl
  | cons x xs ih => simp only [isFzs, List.all_cons, ih]

mutual
def D.py : D → PyData
  | .non => .none | .bl b => .bool b | .int i => .int i | .str x => .str x
  | .tup xs => .tuple (pys xs)
  | .lst _ xs => .list (pys xs)
def pys : List D → List PyData
  | [] => []
  | x :: xs => x.py :: pys xs
end
theorem pys_eq (xs : List D) : pys xs = xs.map D.py := by
  induction xs with
  | nil => rfl
  | cons x xs ih => simp only [pys, List.map_cons, ih]

abbrev AS := Addr → Prop
def emp : AS := fun _ => False
def Dj (F G : AS) : Prop := ∀ b, F b → G b → False
def Sub (F G : AS) : Prop := ∀ b, F b → G b
def un (F G : AS) : AS := fun b => F b ∨ G b
theorem Dj.symm {F G : AS} (h : Dj F G) : Dj G F := fun b x y => h b y x
theorem Dj.sub {F G F' G' : AS} (h : Dj F G) (a : Sub F' F) (b : Sub G' G) : Dj F' G' := fun c x y => h c (a c x) (b c y)
theorem Dj.nil_l {G : AS} : Dj emp G := fun _ x _ => x
theorem Dj.nil_r {G : AS} : Dj G emp := fun _ _ x => x
theorem Sub.refl {F : AS} : Sub F F := fun _ x => x
theorem Sub.nil {F : AS} : Sub emp F := fun _ x => x.elim
theorem Sub.trans {F G H : AS} (a : Sub F G) (b : Sub G H) : Sub F H := fun c x => b c (a c x)
theorem Sub.l {F G : AS} : Sub F (un F G) := fun _ x => .inl x
theorem Sub.r {F G : AS} : Sub G (un F G) := fun _ x => .inr x
theorem Sub.un {F G H : AS} (a : Sub F H) (b : Sub G H) : Sub (un F G) H := fun c x => x.elim (a c) (b c)
theorem Dj.un_l {F G H : AS} (a : Dj F H) (b : Dj G H) : Dj (un F G) H := fun c x y => x.elim (fun z => a c z y) fun z => b c z y
theorem Dj.un_r {F G H : AS} (a : Dj H F) (b : Dj H G) : Dj H (un F G) := (Dj.un_l a.symm b.symm).symm

def KL (K : PySem.W.Frag) (a : Addr) (xs : List V) : Prop :=
  ∃ (its : List Value) (n : Nat), K.lookup a = some { cls := .type "list", data := .seq its.toArray n } ∧ its.length ≤ sizeLine ∧ Vals xs its
theorem KL.sq {K : PySem.W.Frag} {H : Hp} {a : Addr} {xs : List V} (h : KL K a xs) : SqL K H a xs := by
  obtain ⟨its, n, e, z, r⟩ := h
  exact .inr ⟨_, its.toArray, n, e, rfl, rfl, rfl, by simpa using z, by simpa using r⟩
def LX (K : PySem.W.Frag) (H : Hp) (a : Addr) (xs : List V) : Prop := Rd H a (.lst xs) ∨ KL K a xs
theorem LX.sq {K : PySem.W.Frag} {H : Hp} {a : Addr} {xs : List V} (h : LX K H a xs) : SqL K H a xs := by
  rcases h with h | h
  · exact .inl h
  · exact h.sq

mutual
inductive Rep (K : PySem.W.Frag) (Sh : AS) (H : Hp) : V → D → AS → Prop
  | non {F} : Rep K Sh H .non .non F
  | bl {F} (b : Bool) : Rep K Sh H (.bl b) (.bl b) F
  | int {F} (i : Int) : Rep K Sh H (.int i) (.int i) F
  | str {F} (x : Str) : Rep K Sh H (.str x) (.str x) F
  | tup {F a vs ds} : SqT K H a vs → Reps K Sh H vs ds emp → Rep K Sh H (.ref a) (.tup ds) F
  | lstK {F a vs ds} : KL K a vs → Reps K Sh H vs ds emp → Rep K Sh H (.ref a) (.lst false ds) F
  | lstS {F a vs ds} : Sh a → Rd H a (.lst vs) → Reps K Sh H vs ds emp → Rep K Sh H (.ref a) (.lst false ds) F
  | lstO {F G a vs ds} : H a = some (.lst vs) → F a → Sub G F → ¬ G a → Reps K Sh H vs ds G → Rep K Sh H (.ref a) (.lst true ds) F
inductive Reps (K : PySem.W.Frag) (Sh : AS) (H : Hp) : List V → List D → AS → Prop
  | nil {F} : Reps K Sh H [] [] F
  | cons {F G1 G2 v d vs ds} : Rep K Sh H v d G1 → Reps K Sh H vs ds G2 → Sub G1 F → Sub G2 F → Dj G1 G2 → Reps K Sh H (v :: vs) (d :: ds) F
end

section
variable {K : PySem.W.Frag} {Sh Sh' : AS} {H H' : Hp}
theorem Rep.mono {v d F F'} (h : Rep K Sh H v d F) (s : Sub F F') : Rep K Sh H v d F' := by
  cases h with
  | non => exact .non
  | bl b => exact .bl b
  | int i => exact .int i
  | str x => exact .str x
  | tup a b => exact .tup a b
  | lstK a b => exact .lstK a b
  | lstS a b c => exact .lstS a b c
  | lstO a b c d e => exact .lstO a (s _ b) (c.trans s) d e
theorem Reps.mono {vs ds F F'} (h : Reps K Sh H vs ds F) (s : Sub F F') : Reps K Sh H vs ds F' := by
  cases h with
  | nil => exact .nil
  | cons a b c d e => exact .cons a b (c.trans s) (d.trans s) e
theorem Reps.length : ∀ {vs ds F}, Reps K Sh H vs ds F → vs.length = ds.length
  | _, _, _, .nil => rfl
  | _, _, _, .cons _ b _ _ _ => by simp only [List.length_cons, Reps.length b]

structure Kp (Sh F : AS) (H H' : Hp) : Prop where
  kept0 : ∀ b o, H b = some o → ¬ F b → (∀ ps, o ≠ .tbl ps) → H' b = some o
  lv : ∀ b, H b ≠ none → ¬ F b → H' b ≠ none
  tk : ∀ b xs, H b = some (.tup xs) → H' b = some (.tup xs)
  fk : ∀ b o u, H b = some (.frz o u) → H' b = some (.frz o u)
  tab : LamX.Tabs tabT H → LamX.Tabs tabT H'
theorem Kp.kept {F : AS} (k : Kp Sh F H H') (b : Addr) (o : HO) (h : H b = some o) (n : ¬ F b) (t : ∀ ps, o ≠ .tbl ps := by intro _ z; cases z) : H' b = some o := k.kept0 b o h n t
theorem Kp.all {F : AS} (kept : ∀ b o, H b = some o → ¬ F b → H' b = some o) (tk : ∀ b xs, H b = some (.tup xs) → H' b = some (.tup xs)) (fk : ∀ b o u, H b = some (.frz o u) → H' b = some (.frz o u)) (tab : LamX.Tabs tabT H → LamX.Tabs tabT H') : Kp Sh F H H' :=
  have lv : ∀ b, H b ≠ none → ¬ F b → H' b ≠ none := fun b h n z => by
    cases q : H b with
    | none => exact h q
    | some o => rw [kept b o q n] at z; cases z
  ⟨fun b o h n _ => kept b o h n, lv, tk, fk, tab⟩
theorem Kp.ext {F : AS} (k : ∀ b o, H b = some o → H' b = some o) : Kp Sh F H H' := .all (fun b o h _ => k b o h) (fun b _ h => k b _ h) (fun b _ _ h => k b _ h) fun t => t.ext k
theorem Kp.refl {F : AS} : Kp Sh F H H := .ext fun _ _ h => h
theorem Kp.wk {F F' : AS} (k : Kp Sh F H H') (s : Sub F F') : Kp Sh' F' H H' := ⟨fun b o h n t => k.kept0 b o h (fun z => n (s b z)) t, fun b h n => k.lv b h fun z => n (s b z), k.tk, k.fk, k.tab⟩

theorem Kp.sqT {F a vs} (k : Kp Sh F H H') (h : SqT K H a vs) : SqT K H' a vs := by
  rcases h with (h | ⟨o, h⟩) | h
  · exact .inl (.inl (k.tk _ _ h))
  · exact .inl (.inr ⟨o, k.fk _ _ _ h⟩)
  · exact .inr h
theorem Kp.rd {F a u} (k : Kp Sh F H H') (n : ¬ F a) (h : Rd H a u) (t : ∀ ps, u ≠ .tbl ps := by intro _ z; cases z) : Rd H' a u := by
  rcases h with h | ⟨o, h⟩
  · exact .inl (k.kept _ _ h n t)
  · exact .inr ⟨o, k.fk _ _ _ h⟩
mutual
theorem Rep.keep {F : AS} (k : Kp Sh F H H') (hs : Dj F Sh) (hl : Sub Sh Sh') : ∀ {v d G}, Rep K Sh H v d G → Dj G F → Rep K Sh' H' v d G
  | _, _, _, .non, _ => .non
  | _, _, _, .bl b, _ => .bl b
  | _, _, _, .int b, _ => .int b
  | _, _, _, .str b, _ => .str b
  | _, _, _, .tup a b, _ => .tup (k.sqT a) (Reps.keep k hs hl b .nil_l)
  | _, _, _, .lstK a b, _ => .lstK a (Reps.keep k hs hl b .nil_l)
  | _, _, _, .lstS a b c, _ => .lstS (hl _ a) (k.rd (fun z => hs _ z a) b) (Reps.keep k hs hl c .nil_l)
  | _, _, _, .lstO a b c d e, g => .lstO (k.kept _ _ a fun z => g _ b z) b c d (Reps.keep k hs hl e (g.sub c .refl))
theorem Reps.keep {F : AS} (k : Kp Sh F H H') (hs : Dj F Sh) (hl : Sub Sh Sh') : ∀ {vs ds G}, Reps K Sh H vs ds G → Dj G F → Reps K Sh' H' vs ds G
  | _, _, _, .nil, _ => .nil
  | _, _, _, .cons a b c d e, g => .cons (Rep.keep k hs hl a (g.sub c .refl)) (Reps.keep k hs hl b (g.sub d .refl)) c d e
end
mutual
theorem Rep.frz {G : AS} : ∀ {v d F}, Rep K Sh H v d F → Rep K (un Sh F) H v d.frz G
  | _, _, _, .non => .non
  | _, _, _, .bl b => .bl b
  | _, _, _, .int b => .int b
  | _, _, _, .str b => .str b
  | _, _, _, .tup a b => .tup a (Reps.keep (Sh := Sh) (F := emp) .refl .nil_l .l b .nil_l)
  | _, _, _, .lstK a b => by
    have := Reps.frzn (G := emp) b
    exact .lstK a (Reps.shs this fun c z => z.elim .inl fun z => z.elim)
  | _, _, _, .lstS a b c => by
    have := Reps.frzn (G := emp) c
    exact .lstS (.inl a) b (Reps.shs this fun c z => z.elim .inl fun z => z.elim)
  | _, _, _, .lstO a b c d e => .lstS (.inr b) (.inl a) (Reps.shs (Reps.frzn (G := emp) e) fun x z => z.elim .inl fun z => .inr (c _ z))
theorem Reps.frzn {G : AS} : ∀ {vs ds F}, Reps K Sh H vs ds F → Reps K (un Sh F) H vs (frzs ds) G
  | _, _, _, .nil => .nil
  | _, _, _, .cons a b c d e => .cons (G1 := emp) (G2 := emp) (Rep.shs (Rep.frz a) fun x z => z.elim .inl fun z => .inr (c _ z)) (Reps.shs (Reps.frzn b) fun x z => z.elim .inl fun z => .inr (d _ z)) .nil .nil .nil_l
theorem Rep.shs {S S' : AS} : ∀ {v d F}, Rep K S H v d F → Sub S S' → Rep K S' H v d F
  | _, _, _, h, s => Rep.keep (F := emp) .refl .nil_l s h .nil_r
theorem Reps.shs {S S' : AS} : ∀ {vs ds F}, Reps K S H vs ds F → Sub S S' → Reps K S' H vs ds F
  | _, _, _, h, s => Reps.keep (F := emp) .refl .nil_l s h .nil_r
end
theorem Rep.shd {K : PySem.W.Frag} {S S' : AS} {H : Hp} {v d F} (h : Rep K S H v d F) (s : Sub S S') : Rep K S' H v d F := h.keep (F := emp) .refl .nil_l s .nil_r
mutual
theorem Rep.ofFz {G : AS} : ∀ {v d F}, Rep K Sh H v d F → d.isFz = true → Rep K Sh H v d G
  | _, _, _, .non, _ => .non
  | _, _, _, .bl b, _ => .bl b
  | _, _, _, .int b, _ => .int b
  | _, _, _, .str b, _ => .str b
  | _, _, _, .tup a b, _ => .tup a b
  | _, _, _, .lstK a b, _ => .lstK a b
  | _, _, _, .lstS a b c, _ => .lstS a b c
  | _, _, _, .lstO _ _ _ _ _, h => by simp [D.isFz] at h
end
theorem Reps.ofFz {G : AS} : ∀ {vs ds F}, Reps K Sh H vs ds F → isFzs ds = true → Reps K Sh H vs ds G
  | _, _, _, .nil, _ => .nil
  | _, _, _, .cons a b _ _ _, h => by
    simp only [isFzs, Bool.and_eq_true] at h
    exact .cons (G1 := emp) (G2 := emp) (a.ofFz h.1) (b.ofFz h.2) .nil .nil .nil_l
theorem Reps.get : ∀ {vs ds F} {i : Nat} {d : D}, Reps K Sh H vs ds F → ds[i]? = some d → ∃ v, vs[i]? = some v ∧ Rep K Sh H v d F
  | _, _, _, _, _, .nil, e => by simp at e
  | _, _, _, 0, _, .cons a _ c _ _, e => by simp at e; subst e; exact ⟨_, rfl, a.mono c⟩
  | _, _, _, i + 1, _, .cons _ b _ d _, e => by
    obtain ⟨v, h1, h2⟩ := Reps.get (i := i) b (by simpa using e)
    exact ⟨v, by simpa using h1, h2.mono d⟩
theorem Reps.app : ∀ {vs ds F vs' ds' F'}, Reps K Sh H vs ds F → Reps K Sh H vs' ds' F' → Dj F F' → Reps K Sh H (vs ++ vs') (ds ++ ds') (un F F')
  | _, _, _, _, _, _, .nil, h, _ => h.mono .r
  | _, _, _, _, _, _, .cons a b c d e, h, g => .cons a (Reps.app b h (g.sub d .refl)) (c.trans .l) (.un (d.trans .l) .r) (.un_r e (g.sub c .refl))
theorem Reps.one {v d F} (h : Rep K Sh H v d F) : Reps K Sh H [v] [d] F := .cons (G2 := emp) h .nil .refl .nil .nil_r
theorem Reps.take : ∀ {vs ds F} (n : Nat), Reps K Sh H vs ds F → Reps K Sh H (vs.take n) (ds.take n) F
  | _, _, _, 0, _ => .nil
  | _, _, _, _ + 1, .nil => .nil
  | _, _, _, n + 1, .cons a b c d e => .cons a (Reps.take n b) c d e
theorem Reps.drop : ∀ {vs ds F} (n : Nat), Reps K Sh H vs ds F → Reps K Sh H (vs.drop n) (ds.drop n) F
  | _, _, _, 0, h => h
  | _, _, _, _ + 1, .nil => .nil
  | _, _, _, n + 1, .cons _ b _ d _ => (Reps.drop n b).mono d
mutual
theorem Rep.dp : ∀ {v d F}, Rep K Sh H v d F → Dp K H v d.py
  | _, _, _, .non => .non
  | _, _, _, .bl b => .bl b
  | _, _, _, .int b => .int b
  | _, _, _, .str b => .str b
  | _, _, _, .tup a b => .tup a (Reps.dp b)
  | _, _, _, .lstK a b => .lst a.sq (Reps.dp b)
  | _, _, _, .lstS _ b c => .lst (.inl b) (Reps.dp c)
  | _, _, _, .lstO a _ _ _ e => .lst (.inl (.inl a)) (Reps.dp e)
theorem Reps.dp : ∀ {vs ds F}, Reps K Sh H vs ds F → DpAll K H vs (pys ds)
  | _, _, _, .nil => .nil
  | _, _, _, .cons a b _ _ _ => .cons (Rep.dp a) (Reps.dp b)
end
theorem Rep.lst {v o ds F} (h : Rep K Sh H v (.lst o ds) F) : ∃ a vs, v = .ref a ∧ LX K H a vs ∧ Reps K Sh H vs ds F := by
  cases h with
  | lstK a b => exact ⟨_, _, rfl, .inr a, b.mono .nil⟩
  | lstS a b c => exact ⟨_, _, rfl, .inl b, c.mono .nil⟩
  | lstO a b c d e => exact ⟨_, _, rfl, .inl (.inl a), e.mono c⟩
theorem Rep.tupI {v ds F} (h : Rep K Sh H v (.tup ds) F) : ∃ a vs, v = .ref a ∧ SqT K H a vs ∧ Reps K Sh H vs ds emp := by
  cases h with
  | tup a b => exact ⟨_, _, rfl, a, b⟩
end

structure Wf (Sh F : AS) (H : Hp) : Prop where
  dj : Dj F Sh
  lf : ∀ b, F b → H b ≠ none
  ls : ∀ b, Sh b → H b ≠ none
structure Stp (Sh F : AS) (H : Hp) (Sh' F' : AS) (H' : Hp) : Prop where
  kp : Kp Sh F H H'
  sh : Sub Sh Sh'
  shn : ∀ b, Sh' b → Sh b ∨ F b ∨ H b = none
  fn : ∀ b, F' b → F b ∨ H b = none
  wf : Wf Sh' F' H'
theorem Stp.refl {Sh F : AS} {H : Hp} (w : Wf Sh F H) : Stp Sh F H Sh F H := ⟨.refl, .refl, fun _ h => .inl h, fun _ h => .inl h, w⟩
theorem Wf.sub {Sh F G : AS} {H : Hp} (w : Wf Sh F H) (s : Sub G F) : Wf Sh G H := ⟨w.dj.sub s .refl, fun b z => w.lf b (s b z), w.ls⟩
theorem Stp.trans {Sh F : AS} {H : Hp} {Sh1 F1 : AS} {H1 : Hp} {Sh2 F2 : AS} {H2 : Hp} (a : Stp Sh F H Sh1 F1 H1) (b : Stp Sh1 F1 H1 Sh2 F2 H2) : Stp Sh F H Sh2 F2 H2 where
  kp := by
    refine ⟨fun c o h n t => ?_, fun c h n => ?_, fun c xs h => b.kp.tk _ _ (a.kp.tk _ _ h), fun c o u h => b.kp.fk _ _ _ (a.kp.fk _ _ _ h), fun t => b.kp.tab (a.kp.tab t)⟩
    · refine b.kp.kept _ _ (a.kp.kept _ _ h n t) (fun z => ?_) t
      rcases a.fn _ z with z | z
      · exact n z
      · rw [h] at z; cases z
    · refine b.kp.lv _ (a.kp.lv _ h n) fun z => ?_
      rcases a.fn _ z with z | z
      · exact n z
      · exact h z
  sh := a.sh.trans b.sh
  shn := fun c h => by
    have back : H1 c = none → H c = none ∨ F c := fun z => by
      cases q : H c with
      | none => exact .inl rfl
      | some o =>
        by_cases hf : F c
        · exact .inr hf
        · exact absurd z (a.kp.lv _ (by rw [q]; exact fun y => nomatch y) hf)
    rcases b.shn c h with z | z | z
    · exact a.shn c z
    · rcases a.fn c z with z | z
      · exact .inr (.inl z)
      · exact .inr (.inr z)
    · rcases back z with z | z
      · exact .inr (.inr z)
      · exact .inr (.inl z)
  fn := fun c h => by
    rcases b.fn c h with z | z
    · exact a.fn c z
    · cases q : H c with
      | none => exact .inr rfl
      | some o =>
        by_cases hf : F c
        · exact .inl hf
        · exact absurd z (a.kp.lv _ (by rw [q]; exact fun y => nomatch y) hf)
  wf := b.wf
theorem Stp.beside {Sh F T : AS} {H : Hp} {Sh' F' : AS} {H' : Hp} (a : Stp Sh F H Sh' F' H') (w : Wf Sh T H) (d : Dj T F) : Stp Sh (un T F) H Sh' (un T F') H' ∧ Dj T F' := by
  have lv : ∀ b, T b → H' b ≠ none := fun b z => a.kp.lv b (w.lf b z) fun y => d b z y
  have dd : Dj T F' := fun b x y => by
    rcases a.fn b y with z | z
    · exact d b x z
    · exact w.lf b x z
  refine ⟨⟨a.kp.wk .r, a.sh, fun b h => ?_, fun b h => ?_, ⟨?_, ?_, a.wf.ls⟩⟩, dd⟩
  · rcases a.shn b h with z | z | z
    · exact .inl z
    · exact .inr (.inl (.inr z))
    · exact .inr (.inr z)
  · rcases h with h | h
    · exact .inl (.inl h)
    · rcases a.fn b h with z | z
      · exact .inl (.inr z)
      · exact .inr z
  · refine Dj.un_l (fun b x y => ?_) a.wf.dj
    rcases a.shn b y with z | z | z
    · exact w.dj b x z
    · exact d b x z
    · exact w.lf b x z
  · intro b h
    rcases h with h | h
    · exact lv b h
    · exact a.wf.lf b h
theorem Rep.stp {K : PySem.W.Frag} {Sh F G : AS} {H : Hp} {Sh' F' : AS} {H' : Hp} {v d} (h : Rep K Sh H v d G) (a : Stp Sh F H Sh' F' H') (w : Wf Sh F H) (dj : Dj G F) : Rep K Sh' H' v d G := h.keep a.kp w.dj a.sh dj
theorem Reps.stp {K : PySem.W.Frag} {Sh F G : AS} {H : Hp} {Sh' F' : AS} {H' : Hp} {v d} (h : Reps K Sh H v d G) (a : Stp Sh F H Sh' F' H') (w : Wf Sh F H) (dj : Dj G F) : Reps K Sh' H' v d G := h.keep a.kp w.dj a.sh dj
theorem Stp.weak {Sh F : AS} {H : Hp} {Sh' F' F'' : AS} {H' : Hp} (a : Stp Sh F H Sh' F' H') (s : Sub F'' F') : Stp Sh F H Sh' F'' H' :=
  ⟨a.kp, a.sh, a.shn, fun b h => a.fn b (s b h), a.wf.sub s⟩
end Vd
end
section
namespace Vd
open PySem L2

inductive Slot where
  | no | own (d : D) | lk (d : D)
abbrev Ds := List Slot
inductive Res (α : Type) where
  | ok (a : α) | bad
@[inline] def Res.bind {α β : Type} (r : Res α) (f : α → Res β) : Res β := match r with
  | .ok a => f a
  | .bad => .bad
theorem Res.of_bind {α β : Type} {r : Res α} {f : α → Res β} {b : β} (h : r.bind f = .ok b) : ∃ a, r = .ok a ∧ f a = .ok b := by
  cases r with
  | ok a => exact ⟨a, rfl, h⟩
  | bad => cases h
abbrev ES := Ds → Res (D × Ds)

structure Sl (K : PySem.W.Frag) (Sh : AS) (H : Hp) (σ : St) (ds : Ds) (F : AS) : Prop where
  len : ds.length = σ.length
  own : ∃ g : Nat → AS, (∀ (i : Nat) (d : D), ds[i]? = some (Slot.own d) → ∃ v, σ[i]? = some (some v) ∧ Rep K Sh H v d (g i)) ∧ (∀ i, Sub (g i) F) ∧ ∀ i j, i ≠ j → Dj (g i) (g j)
abbrev Lk (K : PySem.W.Frag) (Sh : AS) (H : Hp) (σ : St) (ds : Ds) (L : AS) : Prop := ∀ (i : Nat) (d : D), ds[i]? = some (Slot.lk d) → ∃ v, σ[i]? = some (some v) ∧ Rep K Sh H v d L
abbrev Lks (ds ds' : Ds) : Prop := ∀ (i : Nat) (d : D), ds'[i]? = some (Slot.lk d) → ds[i]? = some (Slot.lk d)
theorem Lks.refl {ds : Ds} : Lks ds ds := fun _ _ h => h
theorem Lks.trans {a b c : Ds} (x : Lks a b) (y : Lks b c) : Lks a c := fun i d h => x i d (y i d h)

structure Wd (K : PySem.W.Frag) (Sh F L : AS) (H : Hp) (σ : St) (ds : Ds) : Prop where
  wf : Wf Sh F H
  wl : Wf Sh L H
  dj : Dj L F
  sl : Sl K Sh H σ ds F
  lk : Lk K Sh H σ ds L
  tabs : LamX.Tabs tabT H

section
variable {K : PySem.W.Frag}
theorem Lk.next {Sh F L Sh' F' : AS} {H H' : Hp} {σ : St} {ds ds' : Ds} (l : Lk K Sh H σ ds L) (w : Wf Sh F H) (dj : Dj L F) (a : Stp Sh F H Sh' F' H') (s : Lks ds ds') : Lk K Sh' H' σ ds' L := fun i d h => by
  obtain ⟨v, e, r⟩ := l i d (s i d h)
  exact ⟨v, e, r.stp a w dj⟩
theorem Wf.next {Sh F L Sh' F' : AS} {H H' : Hp} (wl : Wf Sh L H) (dj : Dj L F) (a : Stp Sh F H Sh' F' H') : Wf Sh' L H' ∧ Dj L F' := by
  obtain ⟨x, y⟩ := a.beside wl dj
  exact ⟨x.wf.sub .l, y⟩
theorem Wd.next {Sh F L Sh' G F' : AS} {H H' : Hp} {σ : St} {ds ds' : Ds} (w : Wd K Sh F L H σ ds) (a : Stp Sh F H Sh' (un G F') H') (s : Lks ds ds') (sl : Sl K Sh' H' σ ds' F') : Wd K Sh' F' L H' σ ds' := by
  obtain ⟨x, y⟩ := w.wl.next w.dj a
  exact ⟨a.wf.sub .r, x, y.sub .refl .r, sl, w.lk.next w.wf w.dj a s, a.kp.tab w.tabs⟩
theorem Sl.stp {Sh F T Sh' T' : AS} {H H' : Hp} {σ : St} {ds : Ds} (sl : Sl K Sh H σ ds F) (a : Stp Sh T H Sh' T' H') (w : Wf Sh T H) (dj : Dj F T) : Sl K Sh' H' σ ds F := by
  obtain ⟨l, g, h1, h2, h3⟩ := sl
  refine ⟨l, g, fun i d e => ?_, h2, h3⟩
  obtain ⟨v, e', r⟩ := h1 i d e
  exact ⟨v, e', r.stp a w (dj.sub (h2 i) .refl)⟩
theorem Sl.mono {Sh F F' : AS} {H : Hp} {σ : St} {ds : Ds} (sl : Sl K Sh H σ ds F) (s : Sub F F') : Sl K Sh H σ ds F' := by
  obtain ⟨l, g, h1, h2, h3⟩ := sl
  exact ⟨l, g, h1, fun i => (h2 i).trans s, h3⟩
end

structure Post (K : PySem.W.Frag) (Sh F : AS) (H : Hp) (σ : St) (ds : Ds) (d : D) (ds' : Ds) (v : V) (H' : Hp) (Sh' G F' : AS) : Prop where
  stp : Stp Sh F H Sh' (un G F') H'
  dj : Dj G F'
  rep : Rep K Sh' H' v d G
  sl : Sl K Sh' H' σ ds' F'
  lks : Lks ds ds'
def tE (K : PySem.W.Frag) (r : ES) : TE := fun σ H Q => ∃ Sh F L ds d ds', Wd K Sh F L H σ ds ∧ r ds = .ok (d, ds') ∧ ∀ v H' Sh' G F', Post K Sh F H σ ds d ds' v H' Sh' G F' → Q v H'

theorem _root_.L2.PE.imp {X : Cx} {e : Expr} {t t' : TE} (h : PE X e t) (i : ∀ σ H Q, t' σ H Q → t σ H Q) : PE X e t' := ⟨fun pins s σ H Q I x => h.run pins s σ H Q I (i σ H Q x)⟩

section
variable {X : Cx} {K : PySem.W.Frag}
theorem Post.pure {Sh F L : AS} {H : Hp} {σ : St} {ds : Ds} {d : D} {v : V} (w : Wd K Sh F L H σ ds) (r : ∀ G, Rep K Sh H v d G) : Post K Sh F H σ ds d ds v H Sh emp F :=
  ⟨(Stp.refl w.wf).weak (.un .nil .refl), .nil_l, r _, w.sl, .refl⟩

def rC (d : D) : ES := fun ds => .ok (d, ds)
theorem e_int {i j pos} : PE X (.Constant (.int i) j pos) (tE X.K (rC (.int i))) := pe_int.imp fun σ H Q ⟨Sh, F, L, ds, d, ds', w, e, k⟩ => by
  cases e
  exact k _ _ _ _ _ (.pure w fun _ => .int i)
theorem e_bl {i j pos} : PE X (.Constant (.bool i) j pos) (tE X.K (rC (.bl i))) := pe_bl.imp fun σ H Q ⟨Sh, F, L, ds, d, ds', w, e, k⟩ => by
  cases e
  exact k _ _ _ _ _ (.pure w fun _ => .bl i)
theorem e_non {j pos} : PE X (.Constant .none j pos) (tE X.K (rC .non)) := pe_non.imp fun σ H Q ⟨Sh, F, L, ds, d, ds', w, e, k⟩ => by
  cases e
  exact k _ _ _ _ _ (.pure w fun _ => .non)
theorem e_str {i j pos} : PE X (.Constant (.str i) j pos) (tE X.K (rC (.str i))) := pe_str.imp fun σ H Q ⟨Sh, F, L, ds, d, ds', w, e, k⟩ => by
  cases e
  exact k _ _ _ _ _ (.pure w fun _ => .str i)

def rVar (i : Nat) : ES := fun ds => match ds[i]? with
  | some (.own d) => .ok (d.frz, ds.set i (.own d.frz))
  | some (.lk d) => if d.isFz = true then .ok (d, ds) else .bad
  | _ => .bad
theorem get_set {α : Type} {l : List α} {i j : Nat} {x y : α} (h : (l.set i x)[j]? = some y) : (j = i ∧ y = x) ∨ (j ≠ i ∧ l[j]? = some y) := by
  by_cases e : i = j
  · subst e
    by_cases q : i < l.length
    · rw [List.getElem?_set_self q] at h; exact .inl ⟨rfl, (Option.some.inj h).symm⟩
    · rw [List.getElem?_eq_none (by simpa using q)] at h; cases h
  · rw [List.getElem?_set_ne e] at h; exact .inr ⟨fun z => e z.symm, h⟩
theorem Lks.set {ds : Ds} {i : Nat} {d : D} : Lks ds (ds.set i (.own d)) := fun j e h => by
  rcases get_set h with ⟨_, z⟩ | ⟨_, z⟩
  · cases z
  · exact z
theorem Lks.set_no {ds : Ds} {i : Nat} : Lks ds (ds.set i .no) := fun j e h => by
  rcases get_set h with ⟨_, z⟩ | ⟨_, z⟩
  · cases z
  · exact z
theorem Stp.share {Sh F : AS} {H : Hp} (w : Wf Sh F H) {G : AS} (s : Sub G F) : Stp Sh F H (un Sh G) (fun b => F b ∧ ¬ G b) H :=
  ⟨.refl, .l, fun b h => h.elim .inl fun z => .inr (.inl (s b z)), fun b h => .inl h.1, ⟨Dj.un_r (w.dj.sub (fun _ z => z.1) .refl) fun b x y => x.2 y, fun b z => w.lf b z.1, fun b z => z.elim (w.ls b) fun y => w.lf b (s b y)⟩⟩
theorem Sl.share {Sh F : AS} {H : Hp} {σ : St} {ds : Ds} {i : Nat} {d : D} (sl : Sl K Sh H σ ds F) (w : Wf Sh F H) (e : ds[i]? = some (.own d)) :
    ∃ v G, σ[i]? = some (some v) ∧ Sub G F ∧ (∀ M, Rep K (un Sh G) H v d.frz M) ∧ Sl K (un Sh G) H σ (ds.set i (.own d.frz)) (fun b => F b ∧ ¬ G b) := by
  obtain ⟨l, g, h1, h2, h3⟩ := sl
  obtain ⟨v, e', r⟩ := h1 i d e
  refine ⟨v, g i, e', h2 i, fun M => r.frz, ?_, fun j => if j = i then emp else g j, fun j d' q => ?_, fun j => ?_, fun j k n => ?_⟩
  · rw [List.length_set]; exact l
  · rcases get_set q with ⟨rfl, z⟩ | ⟨n, z⟩
    · cases z; exact ⟨v, e', r.frz⟩
    · obtain ⟨v', q1, q2⟩ := h1 j d' z
      refine ⟨v', q1, ?_⟩
      dsimp only
      rw [if_neg n]
      exact q2.shd .l
  · dsimp only
    by_cases z : j = i
    · rw [if_pos z]; exact .nil
    · rw [if_neg z]; exact fun b x => ⟨h2 j b x, fun y => h3 j i z b x y⟩
  · dsimp only
    by_cases z : j = i
    · rw [if_pos z]; exact .nil_l
    · rw [if_neg z]
      by_cases y : k = i
      · rw [if_pos y]; exact .nil_r
      · rw [if_neg y]; exact h3 j k n
theorem e_var {i : Nat} {x : Str} {pos : Pos} (hN : X.N[i]? = some x := by rfl) (hv : Vis X.env.scope x := by first | exact Or.inl rfl | exact Or.inr (Or.inl rfl) | exact Or.inr (Or.inr rfl)) (hd : (x == ("__debug__" : Str)) = false := by decide)
    (hcd : (x == ("__classdict__" : Str)) = false := by decide) : PE X (.Name x pos) (tE X.K (rVar i)) := (pe_var hN hv hd hcd).imp fun σ H Q ⟨Sh, F, L, ds, d, ds', w, e, k⟩ => by
  unfold rVar at e
  split at e
  · rename_i d0 q
    cases e
    obtain ⟨v, G, e', s, r, sl⟩ := w.sl.share w.wf q
    exact ⟨v, e', k _ _ _ _ _ ⟨(Stp.share w.wf s).weak (.un .nil .refl), .nil_l, r _, sl, .set⟩⟩
  · rename_i d0 q
    split at e
    · rename_i f
      cases e
      obtain ⟨v, e', r⟩ := w.lk i _ q
      exact ⟨v, e', k _ _ _ _ _ (.pure w fun _ => r.ofFz f)⟩
    · cases e
  · cases e
def rMv (i : Nat) : ES := fun ds => match ds[i]? with
  | some (.own d) => .ok (d, ds.set i .no)
  | some (.lk d) => if d.isFz = true then .ok (d, ds) else .bad
  | _ => .bad
theorem Sl.out {Sh F : AS} {H : Hp} {σ : St} {ds : Ds} {i : Nat} {d : D} (sl : Sl K Sh H σ ds F) (e : ds[i]? = some (.own d)) :
    ∃ v G, σ[i]? = some (some v) ∧ Sub G F ∧ Rep K Sh H v d G ∧ ∀ x : Slot, (∀ d, x ≠ .own d) → Sl K Sh H σ (ds.set i x) (fun b => F b ∧ ¬ G b) := by
  obtain ⟨l, g, h1, h2, h3⟩ := sl
  obtain ⟨v, e', r⟩ := h1 i d e
  refine ⟨v, g i, e', h2 i, r, fun x hx => ⟨?_, fun j => if j = i then emp else g j, fun j d' q => ?_, fun j => ?_, fun j k n => ?_⟩⟩
  · rw [List.length_set]; exact l
  · rcases get_set q with ⟨rfl, z⟩ | ⟨n, z⟩
    · exact absurd z.symm (hx d')
    · obtain ⟨v', q1, q2⟩ := h1 j d' z
      refine ⟨v', q1, ?_⟩
      dsimp only
      rw [if_neg n]
      exact q2
  · dsimp only
    by_cases z : j = i
    · rw [if_pos z]; exact .nil
    · rw [if_neg z]; exact fun b x => ⟨h2 j b x, fun y => h3 j i z b x y⟩
  · dsimp only
    by_cases z : j = i
    · rw [if_pos z]; exact .nil_l
    · rw [if_neg z]
      by_cases y : k = i
      · rw [if_pos y]; exact .nil_r
      · rw [if_neg y]; exact h3 j k n
theorem Sl.into {Sh F G : AS} {H : Hp} {σ : St} {ds : Ds} {i : Nat} {d : D} {v : V} (sl : Sl K Sh H σ ds F) (e : σ[i]? = some (some v)) (r : Rep K Sh H v d G) (dj : Dj G F) : Sl K Sh H σ (ds.set i (.own d)) (un G F) := by
  obtain ⟨l, g, h1, h2, h3⟩ := sl
  refine ⟨by rw [List.length_set]; exact l, fun j => if j = i then G else g j, fun j d' q => ?_, fun j => ?_, fun j k n => ?_⟩
  · rcases get_set q with ⟨rfl, z⟩ | ⟨n, z⟩
    · cases z; exact ⟨v, e, by dsimp only; rw [if_pos rfl]; exact r⟩
    · obtain ⟨v', q1, q2⟩ := h1 j d' z
      refine ⟨v', q1, ?_⟩
      dsimp only
      rw [if_neg n]
      exact q2
  · dsimp only
    by_cases z : j = i
    · rw [if_pos z]; exact .l
    · rw [if_neg z]; exact (h2 j).trans .r
  · dsimp only
    by_cases z : j = i
    · rw [if_pos z, if_neg (fun y => n (z.trans y.symm))]; exact dj.sub .refl (h2 k)
    · rw [if_neg z]
      by_cases y : k = i
      · rw [if_pos y]; exact (dj.sub .refl (h2 j)).symm
      · rw [if_neg y]; exact h3 j k n
theorem split_off {Sh F G : AS} {H : Hp} (w : Wf Sh F H) (s : Sub G F) : Stp Sh F H Sh (un G (fun b => F b ∧ ¬ G b)) H ∧ Dj G (fun b => F b ∧ ¬ G b) := by
  refine ⟨(Stp.refl w).weak (.un s fun _ z => z.1), fun b x y => y.2 x⟩
theorem e_mv {i : Nat} {x : Str} {pos : Pos} (hN : X.N[i]? = some x := by rfl) (hv : Vis X.env.scope x := by first | exact Or.inl rfl | exact Or.inr (Or.inl rfl) | exact Or.inr (Or.inr rfl)) (hd : (x == ("__debug__" : Str)) = false := by decide)
    (hcd : (x == ("__classdict__" : Str)) = false := by decide) : PE X (.Name x pos) (tE X.K (rMv i)) := (pe_var hN hv hd hcd).imp fun σ H Q ⟨Sh, F, L, ds, d, ds', w, e, k⟩ => by
  unfold rMv at e
  split at e
  · rename_i d0 q
    cases e
    obtain ⟨v, G, e', s, r, sl⟩ := w.sl.out q
    obtain ⟨a, b⟩ := split_off w.wf s
    exact ⟨v, e', k _ _ _ _ _ ⟨a, b, r, sl _ (fun _ z => nomatch z), .set_no⟩⟩
  · rename_i d0 q
    split at e
    · rename_i f
      cases e
      obtain ⟨v, e', r⟩ := w.lk i _ q
      exact ⟨v, e', k _ _ _ _ _ (.pure w fun _ => r.ofFz f)⟩
    · cases e
  · cases e

theorem Post.two {Sh F L : AS} {H : Hp} {σ : St} {ds ds1 ds2 : Ds} {d1 d2 : D} {v1 v2 : V} {H1 H2 : Hp} {Sh1 G1 F1 Sh2 G2 F2 : AS} (w : Wd K Sh F L H σ ds) (p : Post K Sh F H σ ds d1 ds1 v1 H1 Sh1 G1 F1) (q : Post K Sh1 F1 H1 σ ds1 d2 ds2 v2 H2 Sh2 G2 F2) :
    Stp Sh F H Sh2 (un (un G1 G2) F2) H2 ∧ Dj G1 (un G2 F2) ∧ Rep K Sh2 H2 v1 d1 G1 ∧ Lks ds ds2 := by
  obtain ⟨x, y⟩ := q.stp.beside (p.stp.wf.sub .l) p.dj
  refine ⟨(p.stp.trans x).weak (.un (.un .l (Sub.trans .l .r)) (Sub.trans .r .r)), y, p.rep.stp q.stp (p.stp.wf.sub .r) p.dj, p.lks.trans q.lks⟩
end
end Vd
end
section
namespace Vd
open PySem L2

def tV (K : PySem.W.Frag) (vw : List (V × D)) (r : ES) : TE := fun σ H Q => ∃ Sh F L ds d ds', Wd K Sh F L H σ ds ∧ (∀ p ∈ vw, Rep K Sh H p.1 p.2 L) ∧ r ds = .ok (d, ds') ∧ ∀ v H' Sh' G F', Post K Sh F H σ ds d ds' v H' Sh' G F' → Q v H'
theorem tV_nil {K : PySem.W.Frag} {r : ES} {σ H Q} (h : tE K r σ H Q) : tV K [] r σ H Q := by
  obtain ⟨Sh, F, L, ds, d, ds', w, e, k⟩ := h
  exact ⟨Sh, F, L, ds, d, ds', w, (fun _ z => nomatch z), e, k⟩
abbrev Opd := (D → ES) → ES
def OpdOk (K : PySem.W.Frag) (te : TE) (o : Opd) : Prop := ∀ vw k σ H Q, tV K vw (o k) σ H Q → te σ H fun x H1 => ∃ e, tV K ((x, e) :: vw) (k e) σ H1 Q
def ov (r : ES) : Opd := fun k ds => (r ds).bind fun p => k p.1.frz p.2
def op (i : Nat) : Opd := fun k ds => match ds[i]? with
  | some (.own d) => (k d (ds.set i (.lk d))).bind fun p => .ok (p.1, p.2.set i (.own d))
  | some (.lk d) => k d ds
  | _ => .bad
def D.frz1 : D → D
  | .lst o xs => .lst o (frzs xs)
  | d => d
def D.isFz1 : D → Bool
  | .lst _ xs => isFzs xs
  | _ => true
def oz (i : Nat) : Opd := fun k ds => match ds[i]? with
  | some (.own d) => (k d.frz1 (ds.set i (.lk d.frz1))).bind fun p => .ok (p.1, p.2.set i (.own d.frz1))
  | some (.lk d) => if d.isFz1 = true then k d ds else .bad
  | _ => .bad
section
variable {K : PySem.W.Frag}
theorem Post.freeze {Sh F L : AS} {H : Hp} {σ : St} {ds ds1 : Ds} {d1 : D} {v1 : V} {H1 : Hp} {Sh1 G1 F1 : AS} (p : Post K Sh F H σ ds d1 ds1 v1 H1 Sh1 G1 F1) (w : Wd K Sh F L H σ ds) :
    ∃ Sh2, Stp Sh F H Sh2 F1 H1 ∧ Rep K Sh2 H1 v1 d1.frz emp ∧ Wd K Sh2 F1 L H1 σ ds1 ∧ Lks ds ds1 := by
  have s := Stp.share p.stp.wf (G := G1) .l
  have s2 : Stp Sh F H (un Sh1 G1) F1 H1 := p.stp.trans (s.weak fun b z => ⟨.inr z, fun y => p.dj b y z⟩)
  refine ⟨un Sh1 G1, s2, p.rep.frz, ?_, p.lks⟩
  refine w.next (G := emp) (F' := F1) (s2.weak (.un .nil .refl)) p.lks ?_
  obtain ⟨l, g, h1, h2, h3⟩ := p.sl
  exact ⟨l, g, fun i d e => let ⟨v, q, r⟩ := h1 i d e; ⟨v, q, r.shd .l⟩, h2, h3⟩
theorem Post.behind {Sh F : AS} {H : Hp} {σ : St} {ds ds1 ds2 : Ds} {d : D} {v : V} {H1 H2 : Hp} {Sh1 F1 Sh2 G2 F2 : AS} (s : Stp Sh F H Sh1 F1 H1) (lk : Lks ds ds1) (p : Post K Sh1 F1 H1 σ ds1 d ds2 v H2 Sh2 G2 F2) : Post K Sh F H σ ds d ds2 v H2 Sh2 G2 F2 :=
  ⟨s.trans p.stp, p.dj, p.rep, p.sl, lk.trans p.lks⟩
theorem views {Sh F L : AS} {H : Hp} {vw : List (V × D)} {Sh1 F1 : AS} {H1 : Hp} (h : ∀ p ∈ vw, Rep K Sh H p.1 p.2 L) (s : Stp Sh F H Sh1 F1 H1) (w : Wf Sh F H) (dj : Dj L F) : ∀ p ∈ vw, Rep K Sh1 H1 p.1 p.2 L := fun p hp => (h p hp).stp s w dj
theorem ov_ok {r : ES} : OpdOk K (tE K r) (ov r) := by
  rintro vw k σ H Q ⟨Sh, F, L, ds, d, ds', w, hv, e, q⟩
  obtain ⟨⟨d1, ds1⟩, e1, e⟩ := Res.of_bind e
  refine ⟨Sh, F, L, ds, d1, ds1, w, e1, fun v1 H1 Sh1 G1 F1 p1 => ?_⟩
  obtain ⟨Sh2, s2, rp, w2, lk⟩ := p1.freeze w
  refine ⟨d1.frz, Sh2, F1, L, ds1, d, ds', w2, fun p hp => ?_, e, fun v H' Sh' G F' ps => q v H' Sh' G F' (Post.behind s2 lk ps)⟩
  rcases List.mem_cons.mp hp with rfl | hp
  · exact rp.mono .nil
  · exact views hv s2 w.wf w.dj p hp
theorem lock {Sh F L : AS} {H : Hp} {σ : St} {ds : Ds} {i : Nat} {d : D} (w : Wd K Sh F L H σ ds) (q : ds[i]? = some (.own d)) : ∃ v g F1, σ[i]? = some (some v) ∧ Rep K Sh H v d g ∧ Sub g F ∧ Wd K Sh F1 (un L g) H σ (ds.set i (.lk d)) ∧
    ∀ {z ds2 v2 H2 Sh2 G2 F2}, Post K Sh F1 H σ (ds.set i (.lk d)) z ds2 v2 H2 Sh2 G2 F2 → Post K Sh F H σ ds z (ds2.set i (.own d)) v2 H2 Sh2 G2 (un g F2) := by
  obtain ⟨v, g, e', s, rp, sl⟩ := w.sl.out q
  obtain ⟨a, b⟩ := split_off w.wf s
  have il : i < ds.length := (List.getElem?_eq_some_iff.mp q).1
  refine ⟨v, g, _, e', rp, s, ⟨w.wf.sub fun _ z => z.1, ⟨Dj.un_l w.wl.dj (w.wf.sub s).dj, fun b z => z.elim (w.wl.lf b) fun y => w.wf.lf b (s b y), w.wf.ls⟩, Dj.un_l (w.dj.sub .refl fun _ z => z.1) b, sl _ (fun _ z => nomatch z), (fun j d' e => ?_), w.tabs⟩, fun {z ds2 v2 H2 Sh2 G2 F2} p => ?_⟩
  · rcases get_set e with ⟨rfl, z⟩ | ⟨n, z⟩
    · cases z; exact ⟨v, e', rp.mono .r⟩
    · obtain ⟨u, h1, h2⟩ := w.lk j d' z
      exact ⟨u, h1, h2.mono .l⟩
  · obtain ⟨x, y⟩ := p.stp.beside (w.wf.sub s) b
    refine ⟨(a.trans x).weak (.un (Sub.trans .l .r) (.un .l (Sub.trans .r .r))), Dj.un_r (y.sub .refl .l).symm p.dj, p.rep, p.sl.into e' (rp.stp p.stp (w.wf.sub fun _ z => z.1) b) (y.sub .refl .r), fun j d' e => ?_⟩
    rcases get_set e with ⟨rfl, z⟩ | ⟨n, z⟩
    · cases z
    · rcases get_set (p.lks j d' z) with ⟨m, _⟩ | ⟨_, m⟩
      · exact absurd m n
      · exact m
theorem op_ok {i : Nat} : OpdOk K (tVar i) (op i) := by
  rintro vw k σ H Q ⟨Sh, F, L, ds, d, ds', w, hv, e, q⟩
  unfold op at e
  split at e
  · rename_i d0 qi
    obtain ⟨⟨z, ds2⟩, e1, e2⟩ := Res.of_bind e
    cases e2
    obtain ⟨v, g, F1, e', rp, s, w1, back⟩ := lock w qi
    refine ⟨v, e', d0, Sh, F1, un L g, _, z, ds2, w1, fun p hp => ?_, e1, fun v H' Sh' G F' ps => q v H' Sh' G _ (back ps)⟩
    rcases List.mem_cons.mp hp with rfl | hp
    · exact rp.mono .r
    · exact (hv p hp).mono .l
  · rename_i d0 qi
    obtain ⟨v, e', r⟩ := w.lk i _ qi
    refine ⟨v, e', d0, Sh, F, L, ds, d, ds', w, fun p hp => ?_, e, q⟩
    rcases List.mem_cons.mp hp with rfl | hp
    · exact r
    · exact hv p hp
  · cases e
theorem Rep.frz1 {Sh : AS} {H : Hp} {v : V} {d : D} {g : AS} (r : Rep K Sh H v d g) : ∃ g1, Sub g1 g ∧ Rep K (un Sh g1) H v d.frz1 (fun b => g b ∧ ¬ g1 b) := by
  cases r with
  | non => exact ⟨emp, .nil, .non⟩
  | bl b => exact ⟨emp, .nil, .bl b⟩
  | int b => exact ⟨emp, .nil, .int b⟩
  | str b => exact ⟨emp, .nil, .str b⟩
  | tup a b => exact ⟨emp, .nil, (Rep.tup (F := fun b => g b ∧ ¬ emp b) a b).shd .l⟩
  | lstK a b => exact ⟨emp, .nil, .lstK a b.frzn⟩
  | lstS a b c => exact ⟨emp, .nil, .lstS (.inl a) b c.frzn⟩
  | lstO a b c d e => exact ⟨_, c, .lstO (G := emp) a ⟨b, d⟩ .nil (fun z => z) e.frzn⟩
theorem share1 {Sh F L : AS} {H : Hp} {σ : St} {ds : Ds} {i : Nat} {d : D} (w : Wd K Sh F L H σ ds) (q : ds[i]? = some (.own d)) : ∃ Sh1 F1, Stp Sh F H Sh1 F1 H ∧ Wd K Sh1 F1 L H σ (ds.set i (.own d.frz1)) ∧ Lks ds (ds.set i (.own d.frz1)) := by
  obtain ⟨l, g, h1, h2, h3⟩ := id w.sl
  obtain ⟨v, e', r⟩ := h1 i d q
  obtain ⟨g1, s1, r1⟩ := r.frz1
  have s := Stp.share w.wf (s1.trans (h2 i))
  refine ⟨_, _, s, w.next (G := emp) (s.weak (.un .nil .refl)) .set ⟨by rw [List.length_set]; exact l, fun j => if j = i then (fun b => g i b ∧ ¬ g1 b) else g j, fun j d' e => ?_, fun j => ?_, fun j k n => ?_⟩, .set⟩
  · rcases get_set e with ⟨rfl, z⟩ | ⟨n, z⟩
    · cases z; exact ⟨v, e', by dsimp only; rw [if_pos rfl]; exact r1⟩
    · obtain ⟨v', q1, q2⟩ := h1 j d' z
      refine ⟨v', q1, ?_⟩
      dsimp only
      rw [if_neg n]
      exact q2.shd .l
  · dsimp only
    by_cases z : j = i
    · rw [if_pos z]; exact fun b x => ⟨h2 i b x.1, x.2⟩
    · rw [if_neg z]; exact fun b x => ⟨h2 j b x, fun y => h3 j i z b x (s1 b y)⟩
  · dsimp only
    by_cases z : j = i
    · rw [if_pos z, if_neg (fun y => n (z.trans y.symm))]; exact (h3 i k (fun y => n (z.trans y))).sub (fun _ x => x.1) .refl
    · rw [if_neg z]
      by_cases y : k = i
      · rw [if_pos y]; exact (h3 j i z).sub .refl fun _ x => x.1
      · rw [if_neg y]; exact h3 j k n
theorem set_set {α : Type} (l : List α) (i : Nat) (x y : α) : (l.set i x).set i y = l.set i y := by simp
theorem oz_ok {i : Nat} : OpdOk K (tVar i) (oz i) := by
  rintro vw k σ H Q ⟨Sh, F, L, ds, d, ds', w, hv, e, q⟩
  unfold oz at e
  split at e
  · rename_i d0 qi
    obtain ⟨Sh1, F1, s, w1, lk⟩ := share1 w qi
    refine op_ok vw k σ H Q ⟨Sh1, F1, L, ds.set i (.own d0.frz1), d, ds', w1, views hv s w.wf w.dj, ?_, fun v H' Sh' G F' ps => q v H' Sh' G F' (Post.behind s lk ps)⟩
    have il : i < ds.length := (List.getElem?_eq_some_iff.mp qi).1
    unfold op
    rw [List.getElem?_set_self il]
    dsimp only
    rw [set_set]
    exact e
  · rename_i d0 qi
    split at e
    · refine op_ok vw k σ H Q ⟨Sh, F, L, ds, d, ds', w, hv, ?_, q⟩
      unfold op
      rw [qi]
      exact e
    · cases e
  · cases e

def Nw (H H' : Hp) (G : AS) : Prop := (∀ b o, H b = some o → H' b = some o) ∧ (∀ b, G b → H b = none ∧ H' b ≠ none)
theorem Nw.refl {H : Hp} : Nw H H emp := ⟨fun _ _ h => h, fun _ z => z.elim⟩
theorem Nw.upd {H : Hp} {p : Addr} {o : HO} (h : H p = none) : Nw H (upd H p o) (fun b => b = p) :=
  ⟨fun b u e => by rw [upd_ne (ne_of_none e h)]; exact e, fun b e => by subst e; exact ⟨h, by rw [upd_same]; exact fun z => nomatch z⟩⟩
theorem Nw.sub {H H' : Hp} {G G' : AS} (n : Nw H H' G) (s : Sub G' G) : Nw H H' G' := ⟨n.1, fun b z => n.2 b (s b z)⟩
theorem Nw.trans {H H1 H2 : Hp} {G1 G2 : AS} (a : Nw H H1 G1) (b : Nw H1 H2 G2) : Nw H H2 (un G1 G2) := by
  refine ⟨fun c o h => b.1 _ _ (a.1 _ _ h), fun c h => ?_⟩
  rcases h with h | h
  · obtain ⟨x, y⟩ := a.2 c h
    refine ⟨x, fun z => ?_⟩
    cases q : H1 c with
    | none => exact y q
    | some o => rw [b.1 _ _ q] at z; cases z
  · obtain ⟨x, y⟩ := b.2 c h
    refine ⟨?_, y⟩
    cases q : H c with
    | none => rfl
    | some o => rw [a.1 _ _ q] at x; cases x
theorem Nw.dj {H H1 H2 : Hp} {G1 G2 : AS} (a : Nw H H1 G1) (b : Nw H1 H2 G2) : Dj G1 G2 := fun c x y => (a.2 c x).2 (b.2 c y).1
theorem Nw.kp {Sh : AS} {H H' : Hp} {G : AS} (n : Nw H H' G) : Kp Sh emp H H' := .ext n.1
theorem Nw.rep {Sh : AS} {H H' : Hp} {G F : AS} {v : V} {d : D} (n : Nw H H' G) (r : Rep K Sh H v d F) : Rep K Sh H' v d F := r.keep (Sh := Sh) n.kp .nil_l .refl .nil_r
theorem Nw.reps {Sh : AS} {H H' : Hp} {G F : AS} {v : List V} {d : List D} (n : Nw H H' G) (r : Reps K Sh H v d F) : Reps K Sh H' v d F := r.keep (Sh := Sh) n.kp .nil_l .refl .nil_r
theorem Nw.stp {Sh F : AS} {H H' : Hp} {G : AS} (n : Nw H H' G) (w : Wf Sh F H) : Stp Sh F H Sh (un G F) H' := by
  refine ⟨.ext n.1, .refl, fun b h => .inl h, fun b h => h.elim (fun z => .inr (n.2 b z).1) .inl, ⟨Dj.un_l (fun b x y => w.ls b y (n.2 b x).1) w.dj, fun b z => ?_, fun b z => ?_⟩⟩
  · rcases z with z | z
    · exact (n.2 b z).2
    · intro y
      cases q : H b with
      | none => exact w.lf b z q
      | some o => rw [n.1 _ _ q] at y; cases y
  · intro y
    cases q : H b with
    | none => exact w.ls b z q
    | some o => rw [n.1 _ _ q] at y; cases y
theorem Post.new {Sh F L : AS} {H H' : Hp} {σ : St} {ds : Ds} {d : D} {v : V} {G : AS} (w : Wd K Sh F L H σ ds) (n : Nw H H' G) (r : Rep K Sh H' v d G) : Post K Sh F H σ ds d ds v H' Sh G F := by
  have s := n.stp w.wf
  refine ⟨s, fun b x y => w.wf.lf b y (n.2 b x).1, r, ?_, .refl⟩
  obtain ⟨l, g, h1, h2, h3⟩ := w.sl
  exact ⟨l, g, fun i d e => let ⟨v, q, r⟩ := h1 i d e; ⟨v, q, n.rep r⟩, h2, h3⟩

def Op1 (K : PySem.W.Frag) (f : D → Res D) (r : V → Hp → VK → Prop) : Prop := ∀ (Sh L : AS) (H : Hp) (x : V) (d z : D) (Q : VK), Rep K Sh H x d L → f d = .ok z → (∀ v H' G, Nw H H' G → Rep K Sh H' v z G → Q v H') → r x H Q
def Op2 (K : PySem.W.Frag) (f : D → D → Res D) (r : R2) : Prop := ∀ (Sh L : AS) (H : Hp) (x y : V) (d e z : D) (Q : VK), Rep K Sh H x d L → Rep K Sh H y e L → f d e = .ok z → (∀ v H' G, Nw H H' G → Rep K Sh H' v z G → Q v H') → r x y H Q
def rEnd (z : Res D) : ES := fun ds => z.bind fun d => .ok (d, ds)
def r1 (f : D → Res D) (a : Opd) : ES := a fun x => rEnd (f x)
def r2 (f : D → D → Res D) (a b : Opd) : ES := a fun x => b fun y => rEnd (f x y)
theorem tV_end {vw : List (V × D)} {z : Res D} {σ H Q} {P : Prop} (h : tV K vw (rEnd z) σ H Q)
    (k : ∀ Sh L d, (∀ p ∈ vw, Rep K Sh H p.1 p.2 L) → z = .ok d → (∀ v H' G, Nw H H' G → Rep K Sh H' v d G → Q v H') → P) : P := by
  obtain ⟨Sh, F, L, ds, d, ds', w, hv, e, q⟩ := h
  obtain ⟨d1, e1, e2⟩ := Res.of_bind e
  cases e2
  exact k Sh L d hv e1 fun v H' G n rp => q v H' Sh G F (.new w n rp)
theorem tE_1 {f : D → Res D} {r : V → Hp → VK → Prop} (o : Op1 K f r) {ta : TE} {a : Opd} (ha : OpdOk K ta a) (mono : ∀ {σ H Q Q'}, (∀ x H, Q x H → Q' x H) → ta σ H Q → ta σ H Q') : ∀ σ H Q, tE K (r1 f a) σ H Q → tUn r ta σ H Q := by
  intro σ H Q h
  refine mono (fun x H1 ⟨e, h1⟩ => ?_) (ha [] _ σ H Q (tV_nil h))
  exact tV_end h1 fun Sh L d hv ez k => o Sh L H1 x e d Q (hv (x, e) (by simp)) ez k
theorem tE_2 {f : D → D → Res D} {r : R2} (o : Op2 K f r) {ta tb : TE} {a b : Opd} (ha : OpdOk K ta a) (hb : OpdOk K tb b) (ma : ∀ {σ H Q Q'}, (∀ x H, Q x H → Q' x H) → ta σ H Q → ta σ H Q') (mb : ∀ {σ H Q Q'}, (∀ x H, Q x H → Q' x H) → tb σ H Q → tb σ H Q') :
    ∀ σ H Q, tE K (r2 f a b) σ H Q → tOp r ta tb σ H Q := by
  intro σ H Q h
  refine ma (fun x H1 ⟨e, h1⟩ => ?_) (ha [] _ σ H Q (tV_nil h))
  refine mb (fun y H2 ⟨e2, h2⟩ => ?_) (hb _ _ σ H1 Q h1)
  exact tV_end h2 fun Sh L d hv ez k => o Sh L H2 x y e e2 d Q (hv (x, e) (by simp)) (hv (y, e2) (by simp)) ez k
theorem tE_mono {r : ES} {σ H} {Q Q' : VK} (h : ∀ x H, Q x H → Q' x H) (k : tE K r σ H Q) : tE K r σ H Q' := by
  obtain ⟨Sh, F, L, ds, d, ds', w, e, q⟩ := k
  exact ⟨Sh, F, L, ds, d, ds', w, e, fun v H' Sh' G F' p => h _ _ (q v H' Sh' G F' p)⟩
theorem tVar_mono {i : Nat} {σ H} {Q Q' : VK} (h : ∀ x H, Q x H → Q' x H) (k : tVar i σ H Q) : tVar i σ H Q' := by
  obtain ⟨v, e, q⟩ := k
  exact ⟨v, e, h _ _ q⟩
end
structure EO (X : Cx) (e : Expr) (o : Opd) : Prop where
  ex : ∃ t : TE, PE X e t ∧ OpdOk X.K t o ∧ ∀ {σ H} {Q Q' : VK}, (∀ x H, Q x H → Q' x H) → t σ H Q → t σ H Q'
section
variable {X : Cx} {a b c : Expr} {pos : Pos}
theorem eo {r : ES} (h : PE X a (tE X.K r)) : EO X a (ov r) := ⟨_, h, ov_ok, tE_mono⟩
theorem eo_p {i : Nat} {x : Str} {pos : Pos} (hN : X.N[i]? = some x := by rfl) (hv : Vis X.env.scope x := by first | exact Or.inl rfl | exact Or.inr (Or.inl rfl) | exact Or.inr (Or.inr rfl)) (hd : (x == ("__debug__" : Str)) = false := by decide)
    (hcd : (x == ("__classdict__" : Str)) = false := by decide) : EO X (.Name x pos) (op i) := ⟨_, pe_var hN hv hd hcd, op_ok, tVar_mono⟩
theorem eo_z {i : Nat} {x : Str} {pos : Pos} (hN : X.N[i]? = some x := by rfl) (hv : Vis X.env.scope x := by first | exact Or.inl rfl | exact Or.inr (Or.inl rfl) | exact Or.inr (Or.inr rfl)) (hd : (x == ("__debug__" : Str)) = false := by decide)
    (hcd : (x == ("__classdict__" : Str)) = false := by decide) : EO X (.Name x pos) (oz i) := ⟨_, pe_var hN hv hd hcd, oz_ok, tVar_mono⟩
theorem e_bin {op : Operator} {r : R2} {f : D → D → Res D} {oa ob : Opd} (ho : OpR X (binaryOp op) r) (o : Op2 X.K f r) (ha : EO X a oa) (hb : EO X b ob) : PE X (.BinOp a op b pos) (tE X.K (r2 f oa ob)) := by
  obtain ⟨ta, a1, a2, a3⟩ := ha
  obtain ⟨tb, b1, b2, b3⟩ := hb
  exact (pe_op ho a1 b1).imp (tE_2 o a2 b2 a3 b3)
theorem e_un {op : UnaryOp} {r : V → Hp → VK → Prop} {f : D → Res D} {oa : Opd} (ho : UnR X (unaryOp op) r) (o : Op1 X.K f r) (ha : EO X a oa) : PE X (.UnaryOp op a pos) (tE X.K (r1 f oa)) := by
  obtain ⟨ta, a1, a2, a3⟩ := ha
  exact (pe_un ho a1).imp (tE_1 o a2 a3)
theorem e_cmp {op : CmpOp} {r : R2} {f : D → D → Res D} {oa ob : Opd} (ho : OpR X (compareOp op) r) (o : Op2 X.K f r) (ha : EO X a oa) (hb : EO X b ob) (hm : behindInMarks op b = false := by first | exact nomark _ | rfl) : PE X (.Compare a [op] [b] pos) (tE X.K (r2 f oa ob)) := by
  obtain ⟨ta, a1, a2, a3⟩ := ha
  obtain ⟨tb, b1, b2, b3⟩ := hb
  exact (pe_cmpR ho a1 b1 hm).imp (tE_2 o a2 b2 a3 b3)
end
end Vd
end
section
namespace Vd
open PySem L2

def tru : D → Res Bool
  | .non => .ok false
  | .bl b => .ok b
  | .int i => .ok (i != 0)
  | .str x => if x.length ≤ sizeLine then .ok ((x.length : Int) != 0) else .bad
  | .tup xs => .ok (!xs.isEmpty)
  | .lst _ xs => .ok (!xs.isEmpty)
theorem isEmpty_len {α β : Type} {xs : List α} {ys : List β} (h : xs.length = ys.length) : xs.isEmpty = ys.isEmpty := by
  cases xs <;> cases ys <;> first | rfl | (simp at h)
theorem tru_V {K : PySem.W.Frag} {Sh L : AS} {H : Hp} {x : V} {d : D} {k : Bool} (r : Rep K Sh H x d L) (e : tru d = .ok k) : TruV K x H k := by
  cases r with
  | non => cases e; rfl
  | bl b => cases e; rfl
  | int i => cases e; rfl
  | str x =>
    simp only [tru] at e
    split at e
    · rename_i h
      cases e
      exact ⟨h, rfl⟩
    · cases e
  | tup a b =>
    cases e
    exact .inr (.inl ⟨_, a, by rw [isEmpty_len b.length]⟩)
  | lstK a b => cases e; exact .inl ⟨_, a.sq, by rw [isEmpty_len b.length]⟩
  | lstS a b c => cases e; exact .inl ⟨_, .inl b, by rw [isEmpty_len c.length]⟩
  | lstO a b c d e' => cases e; exact .inl ⟨_, .inl (.inl a), by rw [isEmpty_len e'.length]⟩

abbrev BS := Ds → Res (Bool × Ds)
structure PostT (K : PySem.W.Frag) (Sh F : AS) (H : Hp) (σ : St) (ds ds' : Ds) (H' : Hp) (Sh' F' : AS) : Prop where
  stp : Stp Sh F H Sh' F' H'
  sl : Sl K Sh' H' σ ds' F'
  lks : Lks ds ds'
def tT (K : PySem.W.Frag) (r : BS) : TT := fun σ H Q => ∃ Sh F L ds b ds', Wd K Sh F L H σ ds ∧ r ds = .ok (b, ds') ∧ ∀ H' Sh' F', PostT K Sh F H σ ds ds' H' Sh' F' → Q b H'
theorem _root_.L2.PT.imp {X : Cx} {e : Expr} {t t' : TT} (h : PT X e t) (i : ∀ σ H Q, t' σ H Q → t σ H Q) : PT X e t' := ⟨fun pins s σ H Q I x => h.run pins s σ H Q I (i σ H Q x)⟩
theorem _root_.L2.PW.imp {X : Cx} {e : Expr} {t t' : TT} (h : PW X e t) (i : ∀ σ H Q, t' σ H Q → t σ H Q) : PW X e t' := ⟨fun wh pins s σ H Q I x => h.run wh pins s σ H Q I (i σ H Q x)⟩
section
variable {K : PySem.W.Frag}
theorem Wd.nextT {Sh F L Sh' F' : AS} {H H' : Hp} {σ : St} {ds ds' : Ds} (w : Wd K Sh F L H σ ds) (p : PostT K Sh F H σ ds ds' H' Sh' F') : Wd K Sh' F' L H' σ ds' :=
  w.next (G := emp) (p.stp.weak (.un .nil .refl)) p.lks p.sl
theorem PostT.trans {Sh F : AS} {H : Hp} {σ : St} {ds ds1 ds2 : Ds} {H1 H2 : Hp} {Sh1 F1 Sh2 F2 : AS} (a : PostT K Sh F H σ ds ds1 H1 Sh1 F1) (b : PostT K Sh1 F1 H1 σ ds1 ds2 H2 Sh2 F2) : PostT K Sh F H σ ds ds2 H2 Sh2 F2 :=
  ⟨a.stp.trans b.stp, b.sl, a.lks.trans b.lks⟩
theorem Post.drop {Sh F : AS} {H : Hp} {σ : St} {ds ds' : Ds} {d : D} {v : V} {H' : Hp} {Sh' G F' : AS} (p : Post K Sh F H σ ds d ds' v H' Sh' G F') : PostT K Sh F H σ ds ds' H' Sh' F' := ⟨p.stp.weak .r, p.sl, p.lks⟩
def bTru (o : Opd) : BS := fun ds => (o (fun x => rEnd ((tru x).bind fun b => .ok (.bl b))) ds).bind fun p => match p.1 with
  | .bl b => .ok (b, p.2)
  | _ => .bad
theorem tT_tru {o : Opd} {ta : TE} (ha : OpdOk K ta o) (mono : ∀ {σ H} {Q Q' : VK}, (∀ x H, Q x H → Q' x H) → ta σ H Q → ta σ H Q') : ∀ σ H Q, tT K (bTru o) σ H Q → ta σ H fun x H' => ∃ k, TruV K x H' k ∧ Q k H' := by
  rintro σ H Q ⟨Sh, F, L, ds, b, ds', w, e, q⟩
  obtain ⟨⟨d, ds1⟩, e1, e2⟩ := Res.of_bind e
  have h : tE K (o (fun x => rEnd ((tru x).bind fun b => .ok (.bl b)))) σ H fun v H' => v = .bl b ∧ Q b H' := by
    refine ⟨Sh, F, L, ds, d, ds1, w, e1, fun v H' Sh' G F' p => ?_⟩
    cases d with
    | bl b' =>
      cases e2
      exact ⟨by cases p.rep; rfl, q _ _ _ p.drop⟩
    | _ => cases e2
  refine mono (fun x H1 ⟨d1, h1⟩ => ?_) (ha [] _ σ H _ (tV_nil h))
  refine tV_end h1 fun Sh L z hv ez k => ?_
  obtain ⟨b', t1, t2⟩ := Res.of_bind ez
  cases t2
  obtain ⟨hb, hq⟩ := k (.bl b') H1 emp .refl (.bl b')
  cases hb
  exact ⟨b, tru_V (hv (x, d1) (by simp)) t1, hq⟩
def bVal (r : ES) : BS := fun ds => (r ds).bind fun p => match p.1 with
  | .bl b => .ok (b, p.2)
  | _ => .bad
theorem tT_val {r : ES} : ∀ σ H Q, tT K (bVal r) σ H Q → tE K r σ H fun x H' => ∃ k, x = .bl k ∧ Q k H' := by
  rintro σ H Q ⟨Sh, F, L, ds, b, ds', w, e, q⟩
  obtain ⟨⟨d, ds1⟩, e1, e2⟩ := Res.of_bind e
  refine ⟨Sh, F, L, ds, d, ds1, w, e1, fun v H' Sh' G F' p => ?_⟩
  cases d with
  | bl b' =>
    cases e2
    exact ⟨b, by cases p.rep; rfl, q _ _ _ p.drop⟩
  | _ => cases e2
def bAnd (a b : BS) : BS := fun ds => (a ds).bind fun p => if p.1 = true then b p.2 else .ok (false, p.2)
def bOr (a b : BS) : BS := fun ds => (a ds).bind fun p => if p.1 = true then .ok (true, p.2) else b p.2
def bNot (a : BS) : BS := fun ds => (a ds).bind fun p => .ok (!p.1, p.2)
theorem tT_and {a b : BS} : ∀ σ H Q, tT K (bAnd a b) σ H Q → tAnd (tT K a) (tT K b) σ H Q := by
  rintro σ H Q ⟨Sh, F, L, ds, c, ds', w, e, q⟩
  obtain ⟨⟨d, ds1⟩, e1, e2⟩ := Res.of_bind e
  refine ⟨Sh, F, L, ds, d, ds1, w, e1, fun H' Sh' F' p => ?_⟩
  cases d with
  | true => exact iteT ⟨Sh', F', L, ds1, c, ds', w.nextT p, e2, fun H2 Sh2 F2 p2 => q _ _ _ (p.trans p2)⟩
  | false =>
    cases e2
    exact iteF (q _ _ _ p)
theorem tT_or {a b : BS} : ∀ σ H Q, tT K (bOr a b) σ H Q → tOr (tT K a) (tT K b) σ H Q := by
  rintro σ H Q ⟨Sh, F, L, ds, c, ds', w, e, q⟩
  obtain ⟨⟨d, ds1⟩, e1, e2⟩ := Res.of_bind e
  refine ⟨Sh, F, L, ds, d, ds1, w, e1, fun H' Sh' F' p => ?_⟩
  cases d with
  | false => exact iteF ⟨Sh', F', L, ds1, c, ds', w.nextT p, e2, fun H2 Sh2 F2 p2 => q _ _ _ (p.trans p2)⟩
  | true =>
    cases e2
    exact iteT (q _ _ _ p)
theorem tT_not {a : BS} : ∀ σ H Q, tT K (bNot a) σ H Q → tNot (tT K a) σ H Q := by
  rintro σ H Q ⟨Sh, F, L, ds, c, ds', w, e, q⟩
  obtain ⟨⟨d, ds1⟩, e1, e2⟩ := Res.of_bind e
  cases e2
  exact ⟨Sh, F, L, ds, d, ds1, w, e1, q⟩
def rIf (t : BS) (a b : ES) : ES := fun ds => (t ds).bind fun p => if p.1 = true then a p.2 else b p.2
theorem PostT.post {Sh F : AS} {H : Hp} {σ : St} {ds ds1 ds2 : Ds} {H1 H2 : Hp} {Sh1 F1 Sh2 G F2 : AS} {d : D} {v : V} (a : PostT K Sh F H σ ds ds1 H1 Sh1 F1) (b : Post K Sh1 F1 H1 σ ds1 d ds2 v H2 Sh2 G F2) : Post K Sh F H σ ds d ds2 v H2 Sh2 G F2 :=
  .behind a.stp a.lks b
theorem tE_if {t : BS} {a b : ES} : ∀ σ H Q, tE K (rIf t a b) σ H Q → tIf (tT K t) (tE K a) (tE K b) σ H Q := by
  rintro σ H Q ⟨Sh, F, L, ds, c, ds', w, e, q⟩
  obtain ⟨⟨d, ds1⟩, e1, e2⟩ := Res.of_bind e
  refine ⟨Sh, F, L, ds, d, ds1, w, e1, fun H' Sh' F' p => ?_⟩
  cases d with
  | true => exact iteT ⟨Sh', F', L, ds1, c, ds', w.nextT p, e2, fun v H2 Sh2 G F2 p2 => q _ _ _ _ _ (p.post p2)⟩
  | false => exact iteF ⟨Sh', F', L, ds1, c, ds', w.nextT p, e2, fun v H2 Sh2 G F2 p2 => q _ _ _ _ _ (p.post p2)⟩
def rAnd (a b : ES) : ES := fun ds => (a ds).bind fun p => (tru p.1).bind fun k => if k = true then b p.2 else .ok (p.1, p.2)
def rOr (a b : ES) : ES := fun ds => (a ds).bind fun p => (tru p.1).bind fun k => if k = true then .ok (p.1, p.2) else b p.2
theorem tE_and {a b : ES} : ∀ σ H Q, tE K (rAnd a b) σ H Q → tAndT K (tE K a) (tE K b) σ H Q := by
  rintro σ H Q ⟨Sh, F, L, ds, c, ds', w, e, q⟩
  obtain ⟨⟨d, ds1⟩, e1, e2⟩ := Res.of_bind e
  obtain ⟨k, e2, e3⟩ := Res.of_bind e2
  refine ⟨Sh, F, L, ds, d, ds1, w, e1, fun v H' Sh' G F' p => ⟨k, tru_V p.rep e2, ?_⟩⟩
  cases k with
  | true => exact iteT ⟨Sh', F', L, ds1, c, ds', w.nextT p.drop, e3, fun v2 H2 Sh2 G2 F2 p2 => q _ _ _ _ _ (p.drop.post p2)⟩
  | false =>
    cases e3
    exact iteF (q _ _ _ _ _ p)
def rNot (o : Opd) : ES := r1 (fun x => (tru x).bind fun b => .ok (.bl (!b))) o
theorem tE_not {o : Opd} {ta : TE} (ha : OpdOk K ta o) (mono : ∀ {σ H} {Q Q' : VK}, (∀ x H, Q x H → Q' x H) → ta σ H Q → ta σ H Q') : ∀ σ H Q, tE K (rNot o) σ H Q → tNotT K ta σ H Q := by
  intro σ H Q h
  refine mono (fun x H1 ⟨e, h1⟩ => ?_) (ha [] _ σ H Q (tV_nil h))
  refine tV_end h1 fun Sh L d hv ez k => ?_
  obtain ⟨b, t1, t2⟩ := Res.of_bind ez
  cases t2
  exact ⟨b, tru_V (hv (x, e) (by simp)) t1, k _ _ _ .refl (.bl _)⟩
def rChain (f g : D → D → Res D) (a b c : Opd) : ES := a fun x => b fun y => fun ds => (f x y).bind fun z => match z with
  | .bl k => if k = true then (c fun w => rEnd (g y w)) ds else .ok (.bl false, ds)
  | _ => .bad
end

section
variable {X : Cx} {a b c : Expr} {pos : Pos}
theorem _root_.Vd.EO.tru {o : Opd} (h : EO X a o) (he : ∀ whole, isTrue a X.env whole = (do let v ← whole; standAt a.pos; holding [v] (truthy v)) := by intro _; rfl) : PT X a (tT X.K (bTru o)) := by
  obtain ⟨ta, a1, a2, a3⟩ := h
  exact (pt_truth a1 he).imp (tT_tru a2 a3)
theorem b_cmp {op : CmpOp} {r : R2} {f : D → D → Res D} {oa ob : Opd} (ho : OpR X (compareOp op) r) (o : Op2 X.K f r) (ha : EO X a oa) (hb : EO X b ob) (hm : behindInMarks op b = false := by first | exact nomark _ | rfl) : PT X (.Compare a [op] [b] pos) (tT X.K (bVal (r2 f oa ob))) := by
  obtain ⟨ta, a1, a2, a3⟩ := ha
  obtain ⟨tb, b1, b2, b3⟩ := hb
  exact (pt_cmpR ho a1 b1 hm).imp fun σ H Q h => tE_2 o a2 b2 a3 b3 σ H _ (tT_val σ H Q h)
theorem b_and1 {t : BS} (h : PT X a (tT X.K t)) : PW X (.BoolOp .And [a] pos) (tT X.K t) := pw_and1 h
theorem b_or1 {t : BS} (h : PT X a (tT X.K t)) : PW X (.BoolOp .Or [a] pos) (tT X.K t) := pw_or1 h
theorem b_and {rest : List Expr} {t u : BS} (h : PT X a (tT X.K t)) (h' : PW X (.BoolOp .And (b :: rest) pos) (tT X.K u)) : PW X (.BoolOp .And (a :: b :: rest) pos) (tT X.K (bAnd t u)) := (pw_and h h').imp tT_and
theorem b_or {rest : List Expr} {t u : BS} (h : PT X a (tT X.K t)) (h' : PW X (.BoolOp .Or (b :: rest) pos) (tT X.K u)) : PW X (.BoolOp .Or (a :: b :: rest) pos) (tT X.K (bOr t u)) := (pw_or h h').imp tT_or
theorem b_not {t : BS} (h : PT X a (tT X.K t)) : PT X (.UnaryOp .Not a pos) (tT X.K (bNot t)) := (pt_not h).imp tT_not
theorem e_if {t : BS} {ra rb : ES} (hc : PT X c (tT X.K t)) (ha : PE X a (tE X.K ra)) (hb : PE X b (tE X.K rb)) : PE X (.IfExp c a b pos) (tE X.K (rIf t ra rb)) := (pe_ifExp hc ha hb).imp tE_if
theorem e_one {op : BoolOp} {r : ES} (h : PE X a (tE X.K r)) : PE X (.BoolOp op [a] pos) (tE X.K r) := pe_one h
theorem e_and {rest : List Expr} {ra rb : ES} (ha : PE X a (tE X.K ra)) (hb : PE X (.BoolOp .And (b :: rest) pos) (tE X.K rb)) : PE X (.BoolOp .And (a :: b :: rest) pos) (tE X.K (rAnd ra rb)) := (pe_andT ha hb).imp tE_and
theorem e_not {o : Opd} (h : EO X a o) : PE X (.UnaryOp .Not a pos) (tE X.K (rNot o)) := by
  obtain ⟨ta, a1, a2, a3⟩ := h
  exact (pe_notT a1).imp (tE_not a2 a3)
end
end Vd
end
section
namespace Vd
open PySem L2
section
variable {K : PySem.W.Frag} {X : Cx}
def I0 (g : Int → Int → D) : D → D → Res D
  | .int i, .int j => .ok (g i j)
  | _, _ => .bad
def IC (c : Int → Int → Bool) (g : Int → Int → D) : D → D → Res D
  | .int i, .int j => if c i j = true then .ok (g i j) else .bad
  | _, _ => .bad
theorem Rep.intI {Sh : AS} {H : Hp} {x : V} {i : Int} {L : AS} (r : Rep K Sh H x (.int i) L) : x = .int i := by cases r; rfl
theorem Rep.strI {Sh : AS} {H : Hp} {x : V} {i : Str} {L : AS} (r : Rep K Sh H x (.str i) L) : x = .str i := by cases r; rfl
theorem Rep.blI {Sh : AS} {H : Hp} {x : V} {i : Bool} {L : AS} (r : Rep K Sh H x (.bl i) L) : x = .bl i := by cases r; rfl
theorem o_I0 {g : Int → Int → Int} : Op2 K (I0 fun i j => .int (g i j)) (rI0 fun i j => .int (g i j)) := by
  intro Sh L H x y d e z Q r1 r2 h k
  cases d <;> cases e <;> simp only [I0] at h <;> first | (cases h; done) | skip
  cases h
  exact ⟨_, _, r1.intI, r2.intI, k _ _ _ .refl (.int _)⟩
theorem o_IB {g : Int → Int → Bool} : Op2 K (I0 fun i j => .bl (g i j)) (rI0 fun i j => .bl (g i j)) := by
  intro Sh L H x y d e z Q r1 r2 h k
  cases d <;> cases e <;> simp only [I0] at h <;> first | (cases h; done) | skip
  cases h
  exact ⟨_, _, r1.intI, r2.intI, k _ _ _ .refl (.bl _)⟩
def mulOk (i j : Int) : Bool := decide ((-(2 ^ 64) < i ∧ i < 2 ^ 64) ∨ (-(2 ^ 64) < j ∧ j < 2 ^ 64)) || decide (i.natAbs.log2 + j.natAbs.log2 < 1000000)
def fdivOk (_ j : Int) : Bool := decide (j ≠ 0 ∧ j.natAbs < 1073741824) || decide (0 < j ∧ j.natAbs.log2 < 9000)
def modOk (_ j : Int) : Bool := decide (j ≠ 0)
def powOk (i j : Int) : Bool := decide (0 ≤ j ∧ j ≤ 1000000 ∧ i.natAbs < 2 ^ 64)
def subD := I0 fun i j => .int (i - j)
def fdivD := IC fdivOk fun i j => .int (i.fdiv j)
def modD := IC modOk fun i j => .int (i.fmod j)
def powD := IC powOk fun i j => .int (i ^ j.toNat)
theorem o_fdiv : Op2 K fdivD (fun x y H Q => rI CDivN (fun i j => .int (i.fdiv j)) x y H Q ∨ rI CDivW (fun i j => .int (i / j)) x y H Q) := by
  intro Sh L H x y d e z Q r1 r2 h k
  cases d <;> cases e <;> simp only [fdivD, IC] at h <;> first | (cases h; done) | skip
  rename_i i j
  split at h
  · rename_i c
    cases h
    simp only [fdivOk, Bool.or_eq_true, decide_eq_true_eq] at c
    rcases c with c | c
    · exact .inl ⟨_, _, r1.intI, r2.intI, c, k _ _ _ .refl (.int _)⟩
    · refine .inr ⟨_, _, r1.intI, r2.intI, c, ?_⟩
      have e : i / j = i.fdiv j := (Int.fdiv_eq_ediv_of_nonneg i (by omega)).symm
      dsimp only
      rw [e]
      exact k _ _ _ .refl (.int _)
  · cases h
theorem o_mod : Op2 K modD (rI (fun _ j => j ≠ 0) fun i j => .int (i.fmod j)) := by
  intro Sh L H x y d e z Q r1 r2 h k
  cases d <;> cases e <;> simp only [modD, IC] at h <;> first | (cases h; done) | skip
  split at h
  · rename_i c
    cases h
    exact ⟨_, _, r1.intI, r2.intI, by simpa [modOk] using c, k _ _ _ .refl (.int _)⟩
  · cases h
theorem o_pow : Op2 K powD (rI CPow fun i j => .int (i ^ j.toNat)) := by
  intro Sh L H x y d e z Q r1 r2 h k
  cases d <;> cases e <;> simp only [powD, IC] at h <;> first | (cases h; done) | skip
  split at h
  · rename_i c
    cases h
    exact ⟨_, _, r1.intI, r2.intI, (by simp only [powOk, decide_eq_true_eq] at c; exact c), k _ _ _ .refl (.int _)⟩
  · cases h
def negD : D → Res D
  | .int i => .ok (.int (-i))
  | _ => .bad
theorem o_neg : Op1 K negD (rU fun i => .int (-i)) := by
  intro Sh L H x d z Q r1 h k
  cases d <;> simp only [negD] at h <;> first | (cases h; done) | skip
  cases h
  exact ⟨_, r1.intI, k _ _ _ .refl (.int _)⟩

theorem _root_.L2.Inv.listX {pins : List (Addr × Obj)} {σ : St} {H : Hp} {s : Shared} {a : Addr} {xs : List V} (I : Inv X pins σ H s) (h : LX X.K H a xs) :
    xs.length ≤ sizeLine ∧ ∃ (its : List Value) (n : Nat), Vals xs its ∧ xs.length = its.length ∧ s.heap.get? a = some { cls := .type "list", data := .seq its.toArray n } := by
  rcases h with h | ⟨its, n, e, z, r⟩
  · obtain ⟨z, its, n, r, e⟩ := h.ok I.hok
    exact ⟨z, its, n, r, r.length, e⟩
  · exact ⟨by rw [r.length]; exact z, its, n, r, r.length, I.kIn _ _ e⟩
def rCatX (K : PySem.W.Frag) : R2 := fun x y H Q => ∃ l b xs zs, x = .ref l ∧ y = .ref b ∧ LX K H l xs ∧ LX K H b zs ∧ xs.length + zs.length ≤ sizeLine ∧ ∀ p, H p = none → Q (.ref p) (upd H p (.lst (xs ++ zs)))
theorem op_catX : OpR X (PySem.binaryOp .Add) (rCatX X.K) := by
  intro pins s σ H x y v u Q I rx ry h
  obtain ⟨l, b, xs, zs, rfl, rfl, hH, hB, hz, q⟩ := h
  cases rx
  cases ry
  obtain ⟨z, its, n, r, hl, e⟩ := I.listX hH
  obtain ⟨z2, its2, n2, r2, hl2, e2⟩ := I.listX hB
  refine PySem.P.add_list e e2 ?_ (by rw [List.size_toArray, List.size_toArray]; omega)
  have ea : its.toArray ++ its2.toArray = (its ++ its2).toArray := by simp
  rw [ea]
  exact ⟨.ref _, _, I.lnew (t' := s.toks) (r.append r2) (by rw [List.length_append]; omega), rfl, q _ I.fresh⟩

def addD : D → D → Res D
  | .int i, .int j => .ok (.int (i + j))
  | .str a, .str b => if a.length + b.length ≤ sizeLine then .ok (.str (a ++ b)) else .bad
  | .lst _ xs, .lst _ ys => if (isFzs xs && isFzs ys && decide (xs.length + ys.length ≤ sizeLine)) = true then .ok (.lst true (xs ++ ys)) else .bad
  | .tup xs, .tup ys => if xs.length + ys.length ≤ sizeLine then .ok (.tup (xs ++ ys)) else .bad
  | _, _ => .bad
def rAddA (K : PySem.W.Frag) : R2 := fun x y H Q => rI0 (fun i j => .int (i + j)) x y H Q ∨ ((∃ i j, x = .str i ∧ y = .str j ∧ i.length + j.length ≤ sizeLine ∧ Q (.str (i ++ j)) H) ∨ (rCatX K x y H Q ∨ rCatA K x y H Q))
theorem op_addA : OpR X (PySem.binaryOp .Add) (rAddA X.K) := op_add.or (op_add_str.or (op_catX.or op_catA))
theorem Reps.cat {Sh : AS} {H : Hp} {vs ws : List V} {ds es : List D} {L : AS} (a : Reps K Sh H vs ds L) (b : Reps K Sh H ws es L) (fa : isFzs ds = true) (fb : isFzs es = true) {G : AS} : Reps K Sh H (vs ++ ws) (ds ++ es) G :=
  (Reps.app (a.ofFz (G := emp) fa) (b.ofFz (G := emp) fb) .nil_l).mono (.un .nil .nil)
theorem isFzs_app {xs ys : List D} : isFzs (xs ++ ys) = (isFzs xs && isFzs ys) := by rw [isFzs_eq, isFzs_eq, isFzs_eq, List.all_append]
theorem newL {Sh L : AS} {H : Hp} {vs : List V} {ds : List D} {p : Addr} (hp : H p = none) (r : Reps K Sh H vs ds L) (f : isFzs ds = true) : Nw H (upd H p (.lst vs)) (fun b => b = p) ∧ Rep K Sh (upd H p (.lst vs)) (.ref p) (.lst true ds) (fun b => b = p) :=
  ⟨.upd hp, .lstO (G := emp) upd_same rfl .nil (fun z => z) ((Nw.upd hp).reps (r.ofFz f))⟩
theorem newT {Sh : AS} {H : Hp} {vs : List V} {ds : List D} {p : Addr} (hp : H p = none) (r : Reps K Sh H vs ds emp) {G : AS} : Nw H (upd H p (.tup vs)) (fun b => b = p) ∧ Rep K Sh (upd H p (.tup vs)) (.ref p) (.tup ds) G :=
  ⟨.upd hp, .tup (.inl (.inl upd_same)) ((Nw.upd hp).reps r)⟩
theorem o_add : Op2 K addD (rAddA K) := by
  intro Sh L H x y d e z Q r1 r2 h k
  cases d <;> cases e <;> simp only [addD] at h <;> first | (cases h; done) | skip
  · cases h
    exact .inl ⟨_, _, r1.intI, r2.intI, k _ _ _ .refl (.int _)⟩
  · split at h
    · rename_i c
      cases h
      exact .inr (.inl ⟨_, _, r1.strI, r2.strI, c, k _ _ _ .refl (.str _)⟩)
    · cases h
  · split at h
    · rename_i c
      cases h
      obtain ⟨a, vs, rfl, ha, ra⟩ := r1.tupI
      obtain ⟨b, ws, rfl, hb, rb⟩ := r2.tupI
      rename_i xs ys
      refine .inr (.inr (.inr ⟨a, b, vs, ws, rfl, rfl, ha, hb, by rw [ra.length, rb.length]; exact c, fun e => ?_, fun e1 e2 => ?_, fun e1 e2 p hp => ?_⟩))
      · subst e
        cases ra
        exact k _ _ _ .refl (.tup hb rb)
      · subst e2
        cases rb
        rw [List.append_nil] at k
        exact k _ _ _ .refl (.tup ha ra)
      · obtain ⟨n, rp⟩ := newT (G := fun b => b = p) hp ((ra.app rb .nil_l).mono (.un .nil .nil))
        exact k _ _ _ n rp
    · cases h
  · split at h
    · rename_i c
      simp only [Bool.and_eq_true, decide_eq_true_eq] at c
      cases h
      obtain ⟨a, vs, rfl, ha, ra⟩ := r1.lst
      obtain ⟨b, ws, rfl, hb, rb⟩ := r2.lst
      refine .inr (.inr (.inl ⟨a, b, vs, ws, rfl, rfl, ha, hb, by rw [ra.length, rb.length]; exact c.2, fun p hp => ?_⟩))
      obtain ⟨n, rp⟩ := newL hp (ra.cat rb c.1.1 c.1.2 (G := emp)) (by rw [isFzs_app, c.1.1, c.1.2]; rfl)
      exact k _ _ _ n rp
    · cases h
def mulD : D → D → Res D
  | .int i, .int j => if mulOk i j = true then .ok (.int (i * j)) else .bad
  | _, _ => .bad
def rMulA : R2 := fun x y H Q => rI CMul (fun i j => .int (i * j)) x y H Q ∨ rI CMulW (fun i j => .int (i * j)) x y H Q
theorem op_mulA : OpR X (PySem.binaryOp .Mult) rMulA := op_mul.or op_mulW
theorem o_mul : Op2 K mulD rMulA := by
  intro Sh L H x y d e z Q r1 r2 h k
  cases d <;> cases e <;> simp only [mulD] at h <;> first | (cases h; done) | skip
  split at h
  · rename_i c
    cases h
    simp only [mulOk, Bool.or_eq_true, decide_eq_true_eq] at c
    rcases c with c | c
    · exact .inl ⟨_, _, r1.intI, r2.intI, c, k _ _ _ .refl (.int _)⟩
    · exact .inr ⟨_, _, r1.intI, r2.intI, c, k _ _ _ .refl (.int _)⟩
  · cases h

def shp (d : D) : Bool := SeqAt.shaped d.py
def eqD (d e : D) : Res D := if (shp d && shp e) = true then .ok (.bl (PyData.eqv d.py e.py)) else .bad
def neD (d e : D) : Res D := if (shp d && shp e) = true then .ok (.bl (!PyData.eqv d.py e.py)) else .bad
theorem o_eq : Op2 K eqD (rEqD K) := by
  intro Sh L H x y d e z Q r1 r2 h k
  unfold eqD at h
  split at h
  · rename_i c
    simp only [Bool.and_eq_true] at c
    cases h
    exact ⟨_, _, r1.dp, r2.dp, c.1, c.2, k _ _ _ .refl (.bl _)⟩
  · cases h
theorem o_ne : Op2 K neD (rNeD K) := by
  intro Sh L H x y d e z Q r1 r2 h k
  unfold neD at h
  split at h
  · rename_i c
    simp only [Bool.and_eq_true] at c
    cases h
    exact ⟨_, _, r1.dp, r2.dp, c.1, c.2, k _ _ _ .refl (.bl _)⟩
  · cases h
def intsD : List D → Option (List Int)
  | [] => some []
  | .int i :: r => (intsD r).map (i :: ·)
  | _ => none
theorem ints_V {Sh : AS} {H : Hp} : ∀ {vs : List V} {ds : List D} {L : AS} {ns : List Int}, Reps K Sh H vs ds L → intsD ds = some ns → vs = ns.map V.int
  | _, _, _, _, .nil, e => by cases e; rfl
  | _, d :: ds, _, ns, .cons a b _ _ _, e => by
    cases d <;> simp only [intsD] at e <;> first | (cases e; done) | skip
    cases q : intsD ds with
    | none => rw [q] at e; cases e
    | some ms =>
      rw [q] at e
      cases e
      rw [a.intI, ints_V b q]
      rfl
def ltT (xs ys : List D) : Res D := match intsD xs, intsD ys with
  | some ns, some ms => .ok (.bl (HT.lexLt ns ms))
  | _, _ => .bad
def leT (xs ys : List D) : Res D := match intsD xs, intsD ys with
  | some ns, some ms => .ok (.bl (Ob.lexAt (fun j => decide (ns.getD j 0 = ms.getD j 0)) (fun j => decide (ns.getD j 0 ≤ ms.getD j 0)) (decide (ns.length ≤ ms.length)) 0 (min ns.length ms.length)))
  | _, _ => .bad
def ltD : D → D → Res D
  | .int i, .int j => .ok (.bl (decide (i < j)))
  | .str i, .str j => .ok (.bl (decide (i.cps.toList < j.cps.toList)))
  | .tup xs, .tup ys => ltT xs ys
  | _, _ => .bad
def leD : D → D → Res D
  | .int i, .int j => .ok (.bl (decide (i ≤ j)))
  | .tup xs, .tup ys => leT xs ys
  | _, _ => .bad
def gtD := I0 fun i j => .bl (decide (j < i))
def geD := I0 fun i j => .bl (decide (j ≤ i))
def rLtA (K : PySem.W.Frag) : R2 := fun x y H Q => rI0 (fun i j => .bl (decide (i < j))) x y H Q ∨ ((∃ i j, x = .str i ∧ y = .str j ∧ Q (.bl (decide (i.cps.toList < j.cps.toList))) H) ∨ rLtT K x y H Q)
theorem op_ltA (hu : X.A.units < cLine) : OpR X (PySem.compareOp .Lt) (rLtA X.K) := op_lt.or (op_lt_str.or (op_ltT hu))
theorem o_lt : Op2 K ltD (rLtA K) := by
  intro Sh L H x y d e z Q r1 r2 h k
  cases d <;> cases e <;> simp only [ltD] at h <;> first | (cases h; done) | skip
  · cases h
    exact .inl ⟨_, _, r1.intI, r2.intI, k _ _ _ .refl (.bl _)⟩
  · cases h
    exact .inr (.inl ⟨_, _, r1.strI, r2.strI, k _ _ _ .refl (.bl _)⟩)
  · unfold ltT at h
    split at h
    · rename_i ns ms e1 e2
      cases h
      obtain ⟨a, vs, rfl, ha, ra⟩ := r1.tupI
      obtain ⟨b, ws, rfl, hb, rb⟩ := r2.tupI
      rw [ints_V ra e1] at ha
      rw [ints_V rb e2] at hb
      exact .inr (.inr ⟨a, b, ns, ms, rfl, rfl, ha, hb, k _ _ _ .refl (.bl _)⟩)
    · cases h
def inL (d : D) (es : List D) : Bool := es.any fun z => PyData.eqv z.py d.py
def inSt (a b : Str) : Bool := !(PySem.Builtin.Str.occurrences b a 0 b.length 1).isEmpty
def inD (neg : Bool) (d : D) : D → Res D
  | .lst o es => if (shp d && shp (.lst o es)) = true then .ok (.bl (inL d es != neg)) else .bad
  | .tup es => if (shp d && shp (.tup es)) = true then .ok (.bl (inL d es != neg)) else .bad
  | .str b => match d with
    | .str a => .ok (.bl (inSt a b != neg))
    | _ => .bad
  | _ => .bad
def rInT (K : PySem.W.Frag) (neg : Bool) : R2 := fun x y H Q => ∃ d ds, Dp K H x d ∧ Dp K H y (.tuple ds) ∧ SeqAt.shaped d = true ∧ SeqAt.shaped (.tuple ds) = true ∧ Q (.bl ((ds.any fun z => PyData.eqv z d) != neg)) H
theorem op_notInT (hu : X.A.units + 65 < cLine) : OpR X (PySem.compareOp .NotIn) (rInT X.K true) := by
  intro pins s σ H x y v u Q I rx ry h
  obtain ⟨d, ds, hd, he, sd, se, q⟩ := h
  obtain ⟨as, r1⟩ := Dp.reads I d x v hd rx
  obtain ⟨bs, r2⟩ := Dp.reads I (.tuple ds) y u he ry
  rw [Bool.bne_true] at q
  exact SeqAt.notIn_tuple_reads r2 r1 (SeqAt.canLay_of_shaped se) (SeqAt.canLay_of_shaped sd) (PyProof.Rows.room_in_shaped sd hu) ⟨.bl _, H, I, rfl, q⟩
end
end Vd
end
section
namespace Vd
open PySem L2
section
variable {K : PySem.W.Frag} {X : Cx}
def rInA (K : PySem.W.Frag) (neg : Bool) : R2 := fun x y H Q => (∃ d ds, Dp K H x d ∧ Dp K H y (.list ds) ∧ SeqAt.shaped d = true ∧ SeqAt.shaped (.list ds) = true ∧ Q (.bl ((ds.any fun z => PyData.eqv z d) != neg)) H) ∨ (rInT K neg x y H Q ∨
  (∃ i j, x = .str i ∧ y = .str j ∧ Q (.bl (inSt i j != neg)) H))
theorem op_notInA (hu : X.A.units + 65 < cLine) : OpR X (PySem.compareOp .NotIn) (rInA X.K true) := by
  refine OpR.or ?_ (OpR.or (op_notInT hu) ?_)
  · intro pins s σ H x y v u Q I rx ry h
    obtain ⟨d, ds, h1, h2, h3, h4, q⟩ := h
    rw [Bool.bne_true] at q
    exact op_notInD hu pins s σ H x y v u Q I rx ry ⟨d, ds, h1, h2, h3, h4, q⟩
  · intro pins s σ H x y v u Q I rx ry h
    obtain ⟨d, ds, h1, h2, q⟩ := h
    rw [Bool.bne_true] at q
    exact op_notIn_str pins s σ H x y v u Q I rx ry ⟨d, ds, h1, h2, q⟩
theorem any_pys {ds : List D} {e : PyData} : ((pys ds).any fun z => PyData.eqv z e) = ds.any fun z => PyData.eqv z.py e := by rw [pys_eq, List.any_map]; rfl
theorem o_in {neg : Bool} : Op2 K (inD neg) (rInA K neg) := by
  intro Sh L H x y d e z Q r1 r2 h k
  cases e <;> simp only [inD] at h <;> first | (cases h; done) | skip
  · cases d <;> simp only at h <;> first | (cases h; done) | skip
    cases h
    exact .inr (.inr ⟨_, _, r1.strI, r2.strI, k _ _ _ .refl (.bl _)⟩)
  · split at h
    · rename_i c
      simp only [Bool.and_eq_true] at c
      cases h
      exact .inr (.inl ⟨_, _, r1.dp, r2.dp, c.1, c.2, by rw [any_pys]; exact k _ _ _ .refl (.bl _)⟩)
    · cases h
  · split at h
    · rename_i c
      simp only [Bool.and_eq_true] at c
      cases h
      exact .inl ⟨_, _, r1.dp, r2.dp, c.1, c.2, by rw [any_pys]; exact k _ _ _ .refl (.bl _)⟩
    · cases h
def D.isNon : D → Bool
  | .non => true
  | _ => false
def isD : D → D → Res D
  | .bl a, .bl b => .ok (.bl (decide (a = b)))
  | d, .non => .ok (.bl d.isNon)
  | _, _ => .bad
def isntD : D → D → Res D
  | .bl a, .bl b => .ok (.bl (!decide (a = b)))
  | d, .non => .ok (.bl (!d.isNon))
  | _, _ => .bad
def rIsA : R2 := fun x y H Q => (y = .non ∧ Q (.bl (decide (x = .non))) H) ∨ rIsB x y H Q
theorem op_isA : OpR X (PySem.compareOp .Is) rIsA := op_isN.or op_isBl
theorem Rep.isNon {Sh : AS} {H : Hp} {x : V} {d : D} {L : AS} (r : Rep K Sh H x d L) : decide (x = .non) = d.isNon := by
  cases r <;> simp [D.isNon]
theorem o_is : Op2 K isD rIsA := by
  intro Sh L H x y d e z Q r1 r2 h k
  cases e <;> cases d <;> simp only [isD] at h <;> first | (cases h; done) | skip
  all_goals cases h
  all_goals first
    | exact .inr ⟨_, _, r1.blI, r2.blI, k _ _ _ .refl (.bl _)⟩
    | exact .inl ⟨by cases r2; rfl, by rw [r1.isNon]; exact k _ _ _ .refl (.bl _)⟩
theorem atI_R {Sh : AS} {H : Hp} {vs : List V} {ds : List D} {L : AS} {i : Int} {d : D} (r : Reps K Sh H vs ds L) (e : atI ds i = some d) : ∃ v, atI vs i = some v ∧ Rep K Sh H v d L := by
  unfold atI at e ⊢
  rw [r.length]
  cases q : ixN ds.length i with
  | none => rw [q] at e; cases e
  | some j =>
    rw [q] at e
    exact r.get e
def itemD : D → D → Res D
  | .lst _ xs, .int i => match atI xs i with
    | some z => if z.isFz = true then .ok z else .bad
    | none => .bad
  | .tup xs, .int i => match atI xs i with
    | some z => .ok z
    | none => .bad
  | .str x, .int i => match atI x.cps.toList i with
    | some c => if x.length ≤ sizeLine then .ok (.str ⟨#[c]⟩) else .bad
    | none => .bad
  | _, _ => .bad
theorem o_item : Op2 K itemD (rIx K) := by
  intro Sh L H x y d e z Q r1 r2 h k
  cases d <;> cases e <;> simp only [itemD] at h <;> first | (cases h; done) | skip
  · split at h
    · rename_i c q
      split at h
      · rename_i hz
        cases h
        exact .inr (.inr ⟨_, _, _, r1.strI, r2.intI, hz, q, k _ _ _ .refl (.str _)⟩)
      · cases h
    · cases h
  · split at h
    · rename_i c q
      cases h
      obtain ⟨a, vs, rfl, ha, ra⟩ := r1.tupI
      obtain ⟨v, e1, rv⟩ := atI_R ra q
      exact .inr (.inl ⟨a, vs, _, v, rfl, r2.intI, ha, e1, k _ _ _ .refl (rv.mono .nil)⟩)
    · cases h
  · split at h
    · rename_i c q
      split at h
      · rename_i hf
        cases h
        obtain ⟨a, vs, rfl, ha, ra⟩ := r1.lst
        obtain ⟨v, e1, rv⟩ := atI_R ra q
        exact .inl ⟨a, vs, _, v, rfl, r2.intI, ha.sq, e1, k _ _ _ .refl (rv.ofFz hf)⟩
      · cases h
    · cases h
theorem e_ix {a b : Expr} {pos : Pos} {oa ob : Opd} (ha : EO X a oa) (hb : EO X b ob) (hs : PlainIx b := by exact fun _ _ => rfl) : PE X (.Subscript a b pos) (tE X.K (r2 itemD oa ob)) := by
  obtain ⟨ta, a1, a2, a3⟩ := ha
  obtain ⟨tb, b1, b2, b3⟩ := hb
  exact (pe_ix ix_seq a1 b1 hs).imp (tE_2 o_item a2 b2 a3 b3)
def cutL {α : Type} (xs : List α) (lo hi : Option Int) : List α := (xs.drop (HT.sIx xs.length 0 lo)).take (HT.sIx xs.length xs.length hi - HT.sIx xs.length 0 lo)
theorem Reps.cut {Sh : AS} {H : Hp} {vs : List V} {ds : List D} {L : AS} (r : Reps K Sh H vs ds L) (lo hi : Option Int) : Reps K Sh H (cutV vs lo hi) (cutL ds lo hi) L := by
  unfold cutV cutL
  rw [r.length]
  exact (r.drop _).take _
theorem isFzs_sub {xs ys : List D} (h : isFzs ys = true) (s : ∀ x ∈ xs, x ∈ ys) : isFzs xs = true := by
  rw [isFzs_eq] at h ⊢
  rw [List.all_eq_true] at h ⊢
  exact fun x hx => h x (s x hx)
theorem cutL_sub {α : Type} {xs : List α} {lo hi : Option Int} : ∀ x ∈ cutL xs lo hi, x ∈ xs := fun x hx => List.mem_of_mem_drop (List.mem_of_mem_take hx)
def sliceD (d : D) (lo hi : Option Int) : Res D := match d with
  | .lst _ xs => if isFzs xs = true then .ok (.lst true (cutL xs lo hi)) else .bad
  | .tup xs => .ok (.tup (cutL xs lo hi))
  | .str x => if x.length ≤ sizeLine then .ok (.str (cutS x lo hi)) else .bad
  | _ => .bad
def rSlAll (K : PySem.W.Frag) : V → Option Int → Option Int → Hp → VK → Prop := fun x lo hi H Q => rSlL K x lo hi H Q ∨ (rSlA K x lo hi H Q ∨ rSlS x lo hi H Q)
theorem sl_all : SlR X (rSlAll X.K) := sl_list.or (sl_tupA.or sl_str)
def noPart : (Option Int → ES) → ES := fun k => k none
def aPart (o : Opd) : (Option Int → ES) → ES := fun k => o fun x => match x with
  | .int i => k (some i)
  | _ => fun _ => .bad
def rSl (oa : Opd) (lo hi : (Option Int → ES) → ES) : ES := oa fun x => lo fun l => hi fun u => rEnd (sliceD x l u)
structure PartOk (K : PySem.W.Frag) (t : TO) (p : (Option Int → ES) → ES) : Prop where
  go : ∀ vw k σ H Q, tV K vw (p k) σ H Q → t σ H fun o H1 => tV K vw (k o) σ H1 Q
  mono : ∀ {σ H} {Q Q' : Option Int → Hp → Prop}, (∀ x H, Q x H → Q' x H) → t σ H Q → t σ H Q'
theorem noPart_ok : PartOk K tNoPart noPart := ⟨fun vw k σ H Q h => h, fun h k => h _ _ k⟩
theorem aPart_ok {t : TE} {o : Opd} (ho : OpdOk K t o) (mono : ∀ {σ H} {Q Q' : VK}, (∀ x H, Q x H → Q' x H) → t σ H Q → t σ H Q') : PartOk K (tPart t) (aPart o) := by
  refine ⟨fun vw k σ H Q h => ?_, fun h k => mono (fun x H ⟨i, e, q⟩ => ⟨i, e, h _ _ q⟩) k⟩
  refine mono (fun x H1 ⟨e, h1⟩ => ?_) (ho vw _ σ H Q h)
  obtain ⟨Sh, F, L, ds, d, ds', w, hv, ez, q⟩ := h1
  cases e <;> simp only at ez <;> first | (cases ez; done) | skip
  exact ⟨_, (hv (x, _) (by simp)).intI, Sh, F, L, ds, d, ds', w, fun p hp => hv p (List.mem_cons_of_mem _ hp), ez, q⟩
structure EPt (X : Cx) (e : Option Expr) (p : (Option Int → ES) → ES) : Prop where
  ex : ∃ t : TO, PO X e t ∧ PartOk X.K t p
theorem ept_no : EPt X none noPart := ⟨_, po_none, noPart_ok⟩
theorem ept {e : Expr} {o : Opd} (h : EO X e o) : EPt X (some e) (aPart o) := by
  obtain ⟨ta, a1, a2, a3⟩ := h
  exact ⟨_, po_some a1, aPart_ok a2 a3⟩
theorem e_sl {a : Expr} {lo hi : Option Expr} {pos p2 : Pos} {oa : Opd} {pl ph : (Option Int → ES) → ES} (ha : EO X a oa) (hl : EPt X lo pl) (hh : EPt X hi ph) : PE X (.Subscript a (.Slice lo hi none p2) pos) (tE X.K (rSl oa pl ph)) := by
  obtain ⟨ta, a1, a2, a3⟩ := ha
  obtain ⟨tl, l1, l2⟩ := hl
  obtain ⟨th, h1, h2⟩ := hh
  refine (pe_slice sl_all a1 l1 h1).imp fun σ H Q h => ?_
  refine a3 (fun x H1 ⟨e, h1⟩ => ?_) (a2 [] _ σ H Q (tV_nil h))
  refine l2.mono (fun l H2 h2' => ?_) (l2.go _ _ σ H1 Q h1)
  refine h2.mono (fun u H3 h3 => ?_) (h2.go _ _ σ H2 Q h2')
  refine tV_end h3 fun Sh L d hv ez k => ?_
  have r1 := hv (x, e) (by simp)
  cases e <;> simp only [sliceD] at ez <;> first | (cases ez; done) | skip
  · split at ez
    · rename_i c
      cases ez
      exact .inr (.inr ⟨_, r1.strI, c, k _ _ _ .refl (.str _)⟩)
    · cases ez
  · cases ez
    obtain ⟨a, vs, rfl, ha, ra⟩ := r1.tupI
    refine .inr (.inl ⟨a, vs, rfl, ha, fun c => ?_, fun c p hp => ?_⟩)
    · refine k _ _ emp .refl (.tup ha ?_)
      have e : cutV vs l u = vs := by
        unfold cutV
        rw [c.1, c.2]
        simp
      have r := ra.cut l u
      rw [e] at r
      exact r
    · obtain ⟨n, rp⟩ := newT (G := fun b => b = p) hp (ra.cut l u)
      exact k _ _ _ n rp
  · split at ez
    · rename_i c
      cases ez
      obtain ⟨a, vs, rfl, ha, ra⟩ := r1.lst
      refine .inl ⟨a, vs, rfl, ha.sq, fun p hp => ?_⟩
      obtain ⟨n, rp⟩ := newL hp (ra.cut l u) (isFzs_sub c cutL_sub)
      exact k _ _ _ n rp
    · cases ez
theorem Reps.rev {Sh : AS} {H : Hp} : ∀ {vs : List V} {ds : List D}, Reps K Sh H vs ds emp → Reps K Sh H vs.reverse ds.reverse emp
  | _, _, .nil => .nil
  | _, _, .cons a b c d e => by
    rw [List.reverse_cons, List.reverse_cons]
    exact ((Reps.rev (b.mono d)).app (Reps.one (a.mono c)) .nil_l).mono (.un .nil .nil)
def rOps : List Opd → (List D → ES) → ES
  | [], k => k []
  | o :: os, k => o fun x => rOps os fun xs => k (x :: xs)
def Views (K : PySem.W.Frag) (Sh : AS) (H : Hp) (L : AS) (vs : List V) (ds : List D) : Prop := Paired (fun v d => Rep K Sh H v d L) vs ds
structure EAs (X : Cx) (es : List Expr) (os : List Opd) : Prop where
  ex : ∃ t : TA, PA X es t ∧ (∀ vw k σ H Q, tV X.K vw (rOps os k) σ H Q → t σ H fun vs H1 => ∃ ds, vs.length = ds.length ∧ tV X.K (vs.zip ds ++ vw) (k ds) σ H1 Q) ∧ ∀ {σ H} {Q Q' : List V → Hp → Prop}, (∀ x H, Q x H → Q' x H) → t σ H Q → t σ H Q'
theorem ea_nil : EAs X [] [] := ⟨_, pa_nil, fun vw k σ H Q h => ⟨[], rfl, h⟩, fun h k => h _ _ k⟩
theorem tV_sub {vw vw' : List (V × D)} {r : ES} {σ H Q} (h : tV K vw r σ H Q) (s : ∀ p ∈ vw', p ∈ vw) : tV K vw' r σ H Q := by
  obtain ⟨Sh, F, L, ds, d, ds', w, hv, e, q⟩ := h
  exact ⟨Sh, F, L, ds, d, ds', w, fun p hp => hv p (s p hp), e, q⟩
theorem ea_cons {e : Expr} {es : List Expr} {o : Opd} {os : List Opd} (h : EO X e o) (t : EAs X es os) (hs : starEach (e :: es) X.env = (false, eval e X.env) :: starEach es X.env := by rfl) : EAs X (e :: es) (o :: os) := by
  obtain ⟨ta, a1, a2, a3⟩ := h
  obtain ⟨tt, t1, t2, t3⟩ := t
  refine ⟨_, pa_cons a1 t1 hs, fun vw k σ H Q h => ?_, fun h k => a3 (fun x H k => t3 (fun xs H k => h _ _ k) k) k⟩
  refine a3 (fun x H1 ⟨d, h1⟩ => ?_) (a2 vw _ σ H Q h)
  refine t3 (fun vs H2 ⟨ds, hl, h2⟩ => ⟨d :: ds, by simp [hl], tV_sub h2 fun p hp => ?_⟩) (t2 _ _ σ H1 Q h1)
  simp only [List.zip_cons_cons, List.cons_append, List.mem_cons, List.mem_append] at hp ⊢
  rcases hp with hp | hp | hp
  · exact .inr (.inl hp)
  · exact .inl hp
  · exact .inr (.inr hp)
theorem views_of {vs : List V} {ds : List D} {vw : List (V × D)} {Sh L : AS} {H : Hp} (hl : vs.length = ds.length) (h : ∀ p ∈ vs.zip ds ++ vw, Rep K Sh H p.1 p.2 L) : Views K Sh H L vs ds := by
  induction vs generalizing ds with
  | nil => cases ds with
    | nil => exact .nil
    | cons d ds => simp at hl
  | cons v vs ih => cases ds with
    | nil => simp at hl
    | cons d ds => exact .cons (h (v, d) (by simp)) (ih (by simpa using hl) fun p hp => h p (by simp only [List.zip_cons_cons, List.cons_append, List.mem_cons]; exact .inr hp))
theorem Views.reps {Sh L : AS} {H : Hp} : ∀ {vs : List V} {ds : List D}, Views K Sh H L vs ds → isFzs ds = true → Reps K Sh H vs ds emp
  | _, _, .nil, _ => .nil
  | _, _, .cons a b, h => by
    simp only [isFzs, Bool.and_eq_true] at h
    exact .cons (G1 := emp) (G2 := emp) (a.ofFz h.1) (Views.reps b h.2) .nil .nil .nil_l
def tupD (xs : List D) : Res D := if (isFzs xs && decide (xs.length ≤ sizeLine)) = true then .ok (.tup xs) else .bad
def rTup (os : List Opd) : ES := rOps os fun xs => rEnd (tupD xs)
theorem e_tup {es : List Expr} {os : List Opd} {k : Nat} {pos : Pos} (h : EAs X es os) : PE X (.Tuple es k pos) (tE X.K (rTup os)) := by
  obtain ⟨ta, a1, a2, a3⟩ := h
  refine (pe_tup a1).imp fun σ H Q h => ?_
  refine a3 (fun vs H1 ⟨ds, hl, h1⟩ => ?_) (a2 [] _ σ H Q (tV_nil h))
  refine tV_end h1 fun Sh L d hv ez k => ?_
  have vw := views_of hl hv
  unfold tupD at ez
  split at ez
  · rename_i c
    simp only [Bool.and_eq_true, decide_eq_true_eq] at c
    cases ez
    refine ⟨by rw [hl]; exact c.2, fun p hp => ?_⟩
    obtain ⟨n, rp⟩ := newT (G := fun b => b = p) hp (vw.reps c.1)
    exact k _ _ _ n rp
  · cases ez
def OpN (K : PySem.W.Frag) (f : List D → Res D) (r : List V → Hp → VK → Prop) : Prop := ∀ (Sh L : AS) (H : Hp) (vs : List V) (ds : List D) (z : D) (Q : VK), Views K Sh H L vs ds → f ds = .ok z → (∀ v H' G, Nw H H' G → Rep K Sh H' v z G → Q v H') → r vs H Q
def rN (f : List D → Res D) (os : List Opd) : ES := rOps os fun xs => rEnd (f xs)
theorem tE_N {f : List D → Res D} {r : List V → Hp → VK → Prop} (o : OpN K f r) {ta : TA} {os : List Opd} (a2 : ∀ vw k σ H Q, tV K vw (rOps os k) σ H Q → ta σ H fun vs H1 => ∃ ds, vs.length = ds.length ∧ tV K (vs.zip ds ++ vw) (k ds) σ H1 Q)
    (a3 : ∀ {σ H} {Q Q' : List V → Hp → Prop}, (∀ x H, Q x H → Q' x H) → ta σ H Q → ta σ H Q') : ∀ σ H Q, tE K (rN f os) σ H Q → tCB r ta σ H Q := by
  intro σ H Q h
  refine a3 (fun vs H1 ⟨ds, hl, h1⟩ => ?_) (a2 [] _ σ H Q (tV_nil h))
  exact tV_end h1 fun Sh L d hv ez k => o Sh L H1 vs ds d Q (views_of hl hv) ez k
theorem e_blt {x : Str} {e : Expr} {es : List Expr} {p pos : Pos} {id : String} {r : List V → Hp → VK → Prop} {f : List D → Res D} {os : List Opd} (hc : CallR X (.builtin id) r) (o : OpN X.K f r) (hm : X.mg x = none) (ha : EAs X (e :: es) os) (hv : bootBuiltins x = some (.builtin id) := by decide +kernel) (hg : Gl X x := by rfl) (hn : x ≠ "__name__" := by decide) (hdb : (x == ("__debug__" : Str)) = false := by decide)
    (he : starEach (e :: es) X.env = (false, eval e X.env) :: starEach es X.env := by rfl) (hpl : (backTo pos (starEach es X.env)).any (·.1) = false := by rfl) : PE X (.Call (.Name x p) (e :: es) [] pos) (tE X.K (rN f os)) := by
  obtain ⟨ta, a1, a2, a3⟩ := ha
  exact (pe_callB hc hg hm hv a1 hn hdb he hpl).imp (tE_N o a2 a3)
theorem e_bty {x : Str} {e : Expr} {es : List Expr} {p pos : Pos} {id : String} {r : List V → Hp → VK → Prop} {f : List D → Res D} {os : List Opd} (hc : CallR X (.type id) r) (o : OpN X.K f r) (hm : X.mg x = none) (ha : EAs X (e :: es) os) (hv : bootBuiltins x = some (.type id) := by decide +kernel) (hg : Gl X x := by rfl) (hn : x ≠ "__name__" := by decide) (hdb : (x == ("__debug__" : Str)) = false := by decide)
    (he : starEach (e :: es) X.env = (false, eval e X.env) :: starEach es X.env := by rfl) (hpl : (backTo pos (starEach es X.env)).any (·.1) = false := by rfl) : PE X (.Call (.Name x p) (e :: es) [] pos) (tE X.K (rN f os)) := by
  obtain ⟨ta, a1, a2, a3⟩ := ha
  exact (pe_callTy hc hg hm hv a1 hn hdb he hpl).imp (tE_N o a2 a3)

def lenD : List D → Res D
  | [.str x] => if x.length ≤ sizeLine then .ok (.int x.length) else .bad
  | [.tup xs] => .ok (.int xs.length)
  | [.lst _ xs] => .ok (.int xs.length)
  | _ => .bad
theorem Views.one {Sh L : AS} {H : Hp} {vs : List V} {d : D} (h : Views K Sh H L vs [d]) : ∃ v, vs = [v] ∧ Rep K Sh H v d L := by
  cases h with
  | cons a b => cases b; exact ⟨_, rfl, a⟩
theorem Views.two {Sh L : AS} {H : Hp} {vs : List V} {d e : D} (h : Views K Sh H L vs [d, e]) : ∃ v w, vs = [v, w] ∧ Rep K Sh H v d L ∧ Rep K Sh H w e L := by
  cases h with
  | cons a b =>
    obtain ⟨w, rfl, r⟩ := Views.one b
    exact ⟨_, w, rfl, a, r⟩
theorem o_len : OpN K lenD (fun xs H Q => ∃ x n, xs = [x] ∧ LenV K x H n ∧ Q (.int n) H) := by
  intro Sh L H vs ds z Q r h k
  unfold lenD at h
  split at h
  · split at h
    · rename_i x c
      cases h
      obtain ⟨v, rfl, r'⟩ := r.one
      cases r'
      exact ⟨_, x.length, rfl, ⟨c, rfl⟩, k _ _ _ .refl (.int _)⟩
    · cases h
  · cases h
    obtain ⟨v, rfl, r'⟩ := r.one
    obtain ⟨a, vs, rfl, ha, ra⟩ := r'.tupI
    exact ⟨_, _, rfl, .inr ⟨_, ha, ra.length.symm⟩, k _ _ _ .refl (.int _)⟩
  · cases h
    obtain ⟨v, rfl, r'⟩ := r.one
    obtain ⟨a, vs, rfl, ha, ra⟩ := r'.lst
    exact ⟨_, _, rfl, .inl ⟨_, ha.sq, ra.length.symm⟩, k _ _ _ .refl (.int _)⟩
  · cases h
def absD : List D → Res D
  | [.int i] => .ok (.int (if i < 0 then -i else i))
  | _ => .bad
theorem o_abs : OpN K absD (fun xs H Q => ∃ i, xs = [.int i] ∧ Q (.int (if i < 0 then -i else i)) H) := by
  intro Sh L H vs ds z Q r h k
  unfold absD at h
  split at h
  · cases h
    obtain ⟨v, rfl, r'⟩ := r.one
    cases r'
    exact ⟨_, rfl, k _ _ _ .refl (.int _)⟩
  · cases h
def max2D : List D → Res D
  | [.int i, .int j] => .ok (.int (if j > i then j else i))
  | _ => .bad
def min2D : List D → Res D
  | [.int i, .int j] => .ok (.int (if j < i then j else i))
  | _ => .bad
def intD' : List D → Res D
  | [.int i] => .ok (.int i)
  | [.bl b] => .ok (.int (if b then 1 else 0))
  | _ => .bad
def listD' : List D → Res D
  | [.lst _ xs] => if isFzs xs = true then .ok (.lst true xs) else .bad
  | [.tup xs] => if isFzs xs = true then .ok (.lst true xs) else .bad
  | _ => .bad
theorem o_list : OpN K listD' (fun xs H Q => ∃ p ys, xs = [.ref p] ∧ (SqL K H p ys ∨ SqT K H p ys) ∧ ∀ l, H l = none → Q (.ref l) (upd H l (.lst ys))) := by
  intro Sh L H vs ds z Q r h k
  unfold listD' at h
  split at h
  · split at h
    · rename_i c
      cases h
      obtain ⟨v, rfl, r'⟩ := r.one
      obtain ⟨a, vs, rfl, ha, ra⟩ := r'.lst
      refine ⟨_, _, rfl, .inl ha.sq, fun p hp => ?_⟩
      obtain ⟨n, rp⟩ := newL hp ra c
      exact k _ _ _ n rp
    · cases h
  · split at h
    · rename_i c
      cases h
      obtain ⟨v, rfl, r'⟩ := r.one
      obtain ⟨a, vs, rfl, ha, ra⟩ := r'.tupI
      refine ⟨_, _, rfl, .inr ha, fun p hp => ?_⟩
      obtain ⟨n, rp⟩ := newL hp ra c
      exact k _ _ _ n rp
    · cases h
  · cases h
def tupleD' : List D → Res D
  | [.lst _ xs] => if isFzs xs = true then .ok (.tup xs) else .bad
  | [.tup xs] => .ok (.tup xs)
  | _ => .bad
theorem o_tuple : OpN K tupleD' (fun xs H Q => ∃ p ys, xs = [.ref p] ∧ ((SqL K H p ys ∧ ∀ l, H l = none → Q (.ref l) (upd H l (.tup ys))) ∨ (SqT K H p ys ∧ Q (.ref p) H))) := by
  intro Sh L H vs ds z Q r h k
  unfold tupleD' at h
  split at h
  · split at h
    · rename_i c
      cases h
      obtain ⟨v, rfl, r'⟩ := r.one
      obtain ⟨a, vs, rfl, ha, ra⟩ := r'.lst
      refine ⟨_, _, rfl, .inl ⟨ha.sq, fun p hp => ?_⟩⟩
      obtain ⟨n, rp⟩ := newT (G := fun b => b = p) hp (ra.ofFz (G := emp) c)
      exact k _ _ _ n rp
    · cases h
  · cases h
    obtain ⟨v, rfl, r'⟩ := r.one
    obtain ⟨a, vs, rfl, ha, ra⟩ := r'.tupI
    exact ⟨_, _, rfl, .inr ⟨ha, k _ _ emp .refl (.tup ha ra)⟩⟩
  · cases h
end
end Vd
end
section
namespace Vd
open PySem L2
section
variable {K : PySem.W.Frag} {X : Cx}
def rSeq : List ES → Ds → Res (List D × Ds)
  | [], ds => .ok ([], ds)
  | r :: rs, ds => (r ds).bind fun p => (rSeq rs p.2).bind fun q => .ok (p.1 :: q.1, q.2)
structure PostA (K : PySem.W.Frag) (Sh F : AS) (H : Hp) (σ : St) (ds : Ds) (xs : List D) (ds' : Ds) (vs : List V) (H' : Hp) (Sh' G F' : AS) : Prop where
  stp : Stp Sh F H Sh' (un G F') H'
  dj : Dj G F'
  rep : Reps K Sh' H' vs xs G
  sl : Sl K Sh' H' σ ds' F'
  lks : Lks ds ds'
def tAo (K : PySem.W.Frag) (rs : List ES) : TA := fun σ H Q => ∃ Sh F L ds xs ds', Wd K Sh F L H σ ds ∧ rSeq rs ds = .ok (xs, ds') ∧ ∀ vs H' Sh' G F', PostA K Sh F H σ ds xs ds' vs H' Sh' G F' → Q vs H'
theorem _root_.L2.PA.imp {es : List Expr} {t t' : TA} (h : PA X es t) (i : ∀ σ H Q, t' σ H Q → t σ H Q) : PA X es t' := ⟨fun po pins s σ H Q I x => h.run po pins s σ H Q I (i σ H Q x)⟩
theorem ao_nil : PA X [] (tAo X.K []) := pa_nil.imp fun σ H Q ⟨Sh, F, L, ds, xs, ds', w, e, k⟩ => by
  cases e
  exact k [] H Sh emp F ⟨(Stp.refl w.wf).weak (.un .nil .refl), .nil_l, .nil, w.sl, .refl⟩
theorem ao_cons {e : Expr} {es : List Expr} {r : ES} {rs : List ES} (h : PE X e (tE X.K r)) (t : PA X es (tAo X.K rs)) (hs : starEach (e :: es) X.env = (false, eval e X.env) :: starEach es X.env := by rfl) : PA X (e :: es) (tAo X.K (r :: rs)) := by
  refine (pa_cons h t hs).imp fun σ H Q ⟨Sh, F, L, ds, xs, ds', w, e, k⟩ => ?_
  obtain ⟨⟨d1, ds1⟩, e1, e⟩ := Res.of_bind e
  obtain ⟨⟨ys, ds2⟩, e2, e⟩ := Res.of_bind e
  cases e
  refine ⟨Sh, F, L, ds, d1, ds1, w, e1, fun v1 H1 Sh1 G1 F1 p1 => ?_⟩
  refine ⟨Sh1, F1, L, ds1, ys, ds2, w.next p1.stp p1.lks p1.sl, e2, fun vs H2 Sh2 G2 F2 p2 => ?_⟩
  obtain ⟨x, y⟩ := p2.stp.beside (p1.stp.wf.sub .l) p1.dj
  refine k _ _ _ (un G1 G2) F2 ⟨(p1.stp.trans x).weak (.un (.un .l (Sub.trans .l .r)) (Sub.trans .r .r)), Dj.un_l (y.sub .refl .r) p2.dj, ?_, p2.sl, p1.lks.trans p2.lks⟩
  exact .cons (p1.rep.stp p2.stp (p1.stp.wf.sub .r) p1.dj) p2.rep .l .r (y.sub .refl .l)
def rLst (rs : List ES) : ES := fun ds => (rSeq rs ds).bind fun p => if p.1.length ≤ sizeLine then .ok (.lst true p.1, p.2) else .bad
theorem e_lst {es : List Expr} {rs : List ES} {pos : Pos} (h : PA X es (tAo X.K rs)) : PE X (.List es pos) (tE X.K (rLst rs)) := by
  refine (pe_lst h).imp fun σ H Q ⟨Sh, F, L, ds, d, ds', w, e, k⟩ => ?_
  obtain ⟨⟨xs, ds1⟩, e1, e⟩ := Res.of_bind e
  dsimp only at e
  split at e
  · rename_i c
    cases e
    refine ⟨Sh, F, L, ds, xs, ds', w, e1, fun vs H' Sh' G F' p => ⟨by rw [p.rep.length]; exact c, fun a ha => ?_⟩⟩
    have n := Nw.upd (o := HO.lst vs) ha
    have s2 := n.stp p.stp.wf
    have na : ∀ b, un G F' b → b ≠ a := fun b z y => p.stp.wf.lf b z (by rw [y]; exact ha)
    refine k _ _ Sh' (un (fun b => b = a) G) F' ⟨(p.stp.trans s2).weak (.un (.un .l (Sub.trans .l .r)) (Sub.trans .r .r)), Dj.un_l (fun b z y => na b (.inr y) z) p.dj, ?_, ?_, p.lks⟩
    · exact .lstO (G := G) upd_same (.inl rfl) .r (fun z => na a (.inl z) rfl) (n.reps p.rep)
    · obtain ⟨l, g, h1, h2, h3⟩ := p.sl
      exact ⟨l, g, fun i d e => let ⟨v, q, r⟩ := h1 i d e; ⟨v, q, n.rep r⟩, h2, h3⟩
  · cases e

def D.ty : D → String
  | .non => "NoneType" | .bl _ => "bool" | .int _ => "int" | .str _ => "str" | .tup _ => "tuple" | .lst _ _ => "list"
theorem Rep.ty {Sh L : AS} {H : Hp} {x : V} {d : D} (r : Rep K Sh H x d L) : TyX K H x (.type d.ty) := by
  cases r with
  | non => exact .base .non
  | bl b => exact .base (.bl b)
  | int b => exact .base (.int b)
  | str b => exact .base (.str b)
  | tup a b =>
    rcases a with (a | ⟨o, a⟩) | ⟨o, its, n, e, c, _⟩
    · exact .base (.tup a)
    · exact .fTuple a
    · exact .kTuple e c
  | lstK a b =>
    obtain ⟨its, n, e, _⟩ := a
    exact .kList e rfl
  | lstS a b c =>
    rcases b with b | ⟨o, b⟩
    · exact .base (.lst b)
    · exact .base (.frz b)
  | lstO a b c d e => exact .base (.lst a)
structure Kinds (n : String) (f : D → Bool) : Prop where
  ok : ∀ d : D, kitB d.ty n = some (f d)
def isIntD : D → Bool | .int _ => true | .bl _ => true | _ => false
def isBoolD : D → Bool | .bl _ => true | _ => false
def isStrD : D → Bool | .str _ => true | _ => false
def isTupD : D → Bool | .tup _ => true | _ => false
def isLstD : D → Bool | .lst _ _ => true | _ => false
theorem k_int : Kinds "int" isIntD := ⟨fun d => by cases d <;> (simp only [D.ty, isIntD]; decide +kernel)⟩
theorem k_bool : Kinds "bool" isBoolD := ⟨fun d => by cases d <;> (simp only [D.ty, isBoolD]; decide +kernel)⟩
theorem k_str : Kinds "str" isStrD := ⟨fun d => by cases d <;> (simp only [D.ty, isStrD]; decide +kernel)⟩
theorem k_tup : Kinds "tuple" isTupD := ⟨fun d => by cases d <;> (simp only [D.ty, isTupD]; decide +kernel)⟩
theorem k_lst : Kinds "list" isLstD := ⟨fun d => by cases d <;> (simp only [D.ty, isLstD]; decide +kernel)⟩
def rIsi (f : D → Bool) (o : Opd) : ES := o fun x => rEnd (.ok (.bl (f x)))
theorem e_isi {a : Expr} {o : Opd} {t : Str} {n : String} {f : D → Bool} {p p' pos : Pos} (h : EO X a o) (kd : Kinds n f) (hm : X.mg "isinstance" = none) (ht : X.mg t = none) (hv : bootBuiltins t = some (.type n) := by decide +kernel) (hg : Gl X "isinstance" := by rfl) (hgt : Gl X t := by rfl) (hn : t ≠ "__name__" := by decide) (hdb : (t == ("__debug__" : Str)) = false := by decide)
    (hb : bootBuiltins "isinstance" = some (.builtin "isinstance") := by decide +kernel) (he : starEach [a, .Name t p'] X.env = (false, eval a X.env) :: starEach [.Name t p'] X.env := by rfl) (hpl : (backTo pos (starEach [.Name t p'] X.env)).any (·.1) = false := by rfl) :
    PE X (.Call (.Name "isinstance" p) [a, .Name t p'] [] pos) (tE X.K (rIsi f o)) := by
  obtain ⟨ta, a1, a2, a3⟩ := h
  refine (pe_callB call_isi hg hm hb (pa_cons a1 (pa_cons (pe_bltn (v := .ty n) hgt ht hv rfl hn hdb) pa_nil) he) (by decide) (by decide) he hpl).imp fun σ H Q h => ?_
  refine a3 (fun x H1 ⟨e, h1⟩ => ?_) (a2 [] _ σ H Q (tV_nil h))
  refine tV_end h1 fun Sh L d hv ez k => ?_
  cases ez
  exact ⟨x, .ty n, _, _, f e, rfl, .ty n, (hv (x, e) (by simp)).ty, kit_ty (kd.ok e), k _ _ _ .refl (.bl _)⟩
def rIsi2 (f g : D → Bool) (o : Opd) : ES := o fun x => rEnd (.ok (.bl (f x || g x)))
theorem e_isi2 {a : Expr} {o : Opd} {t u : Str} {n m : String} {f g : D → Bool} {p p1 p2 p3 pos : Pos} {kk : Nat} (h : EO X a o) (kd : Kinds n f) (kd2 : Kinds m g) (hm : X.mg "isinstance" = none) (ht : X.mg t = none) (hu : X.mg u = none) (hv : bootBuiltins t = some (.type n) := by decide +kernel) (hv2 : bootBuiltins u = some (.type m) := by decide +kernel) (hg : Gl X "isinstance" := by rfl) (hgt : Gl X t := by rfl) (hgu : Gl X u := by rfl) (hn : t ≠ "__name__" := by decide) (hdb : (t == ("__debug__" : Str)) = false := by decide) (hn2 : u ≠ "__name__" := by decide) (hdb2 : (u == ("__debug__" : Str)) = false := by decide)
    (hb : bootBuiltins "isinstance" = some (.builtin "isinstance") := by decide +kernel) (he : starEach [a, .Tuple [.Name t p1, .Name u p2] kk p3] X.env = (false, eval a X.env) :: starEach [.Tuple [.Name t p1, .Name u p2] kk p3] X.env := by rfl) (hpl : (backTo pos (starEach [.Tuple [.Name t p1, .Name u p2] kk p3] X.env)).any (·.1) = false := by rfl) :
    PE X (.Call (.Name "isinstance" p) [a, .Tuple [.Name t p1, .Name u p2] kk p3] [] pos) (tE X.K (rIsi2 f g o)) := by
  obtain ⟨ta, a1, a2, a3⟩ := h
  refine (pe_callB call_isiT hg hm hb (pa_cons a1 (pa_cons (pe_tup (pa_cons (pe_bltn (v := .ty n) hgt ht hv rfl hn hdb) (pa_cons (pe_bltn (v := .ty m) hgu hu hv2 rfl hn2 hdb2) pa_nil))) pa_nil) he) (by decide) (by decide) he hpl).imp fun σ H Q h => ?_
  refine a3 (fun x H1 ⟨e, h1⟩ => ?_) (a2 [] _ σ H Q (tV_nil h))
  refine tV_end h1 fun Sh L d hv ez k => ⟨by show 2 ≤ sizeLine; decide, fun q hq => ?_⟩
  cases ez
  have n1 := Nw.upd (o := HO.tup [V.ty n, V.ty m]) hq
  refine ⟨x, q, [.ty n, .ty m], _, [.type n, .type m], f e || g e, rfl, upd_same, .cons (.ty n) (.cons (.ty m) .nil), (n1.rep (hv (x, e) (by simp))).ty, ?_, k _ _ _ n1 (.bl _)⟩
  refine kitAny_cons (kit_ty (kd.ok e)) (fun z => ?_) fun z => by rw [z]; rfl
  rw [z, Bool.false_or]
  exact kitAny_cons (kit_ty (kd2.ok e)) (fun z => by rw [z]; rfl) fun z => z

end
end Vd
end
section
namespace Vd
open PySem L2

inductive Fl where
  | nx | br | ct | rt (d : D)
abbrev SS := Ds → Res (Fl × Ds)
def Ag (P : List Nat) (σ σ' : St) : Prop := σ'.length = σ.length ∧ ∀ i ∈ P, σ'[i]? = σ[i]?
theorem Ag.refl {P : List Nat} {σ : St} : Ag P σ σ := ⟨rfl, fun _ _ => rfl⟩
theorem Ag.trans {P : List Nat} {σ σ1 σ2 : St} (a : Ag P σ σ1) (b : Ag P σ1 σ2) : Ag P σ σ2 := ⟨b.1.trans a.1, fun i h => (b.2 i h).trans (a.2 i h)⟩
theorem Ag.set {P : List Nat} {σ : St} {i : Nat} {x : Option V} (h : i ∉ P) : Ag P σ (σ.set i x) := ⟨List.length_set, fun j hj => List.getElem?_set_ne fun e => h (by subst e; exact hj)⟩
def LkS (ds ds' : Ds) (σ σ' : St) : Prop := ∀ (i : Nat) (d : D), ds'[i]? = some (Slot.lk d) → ds[i]? = some (Slot.lk d) ∧ σ'[i]? = σ[i]?
theorem LkS.of {ds ds' : Ds} {σ : St} (h : Lks ds ds') : LkS ds ds' σ σ := fun i d e => ⟨h i d e, rfl⟩
theorem LkS.trans {ds ds1 ds2 : Ds} {σ σ1 σ2 : St} (a : LkS ds ds1 σ σ1) (b : LkS ds1 ds2 σ1 σ2) : LkS ds ds2 σ σ2 := fun i d e => by
  obtain ⟨x, y⟩ := b i d e
  obtain ⟨z, t⟩ := a i d x
  exact ⟨z, y.trans t⟩
structure PostS (K : PySem.W.Frag) (P : List Nat) (Sh F : AS) (H : Hp) (σ : St) (ds ds' : Ds) (σ' : St) (H' : Hp) (Sh' F' : AS) : Prop where
  stp : Stp Sh F H Sh' F' H'
  sl : Sl K Sh' H' σ' ds' F'
  lks : LkS ds ds' σ σ'
  ag : Ag P σ σ'
structure PostR (K : PySem.W.Frag) (P : List Nat) (Sh F : AS) (H : Hp) (σ : St) (ds : Ds) (d : D) (ds' : Ds) (σ' : St) (v : V) (H' : Hp) (Sh' G F' : AS) : Prop where
  stp : Stp Sh F H Sh' (un G F') H'
  dj : Dj G F'
  rep : Rep K Sh' H' v d G
  sl : Sl K Sh' H' σ' ds' F'
  lks : LkS ds ds' σ σ'
  ag : Ag P σ σ'
def Wants (K : PySem.W.Frag) (P : List Nat) (Sh F : AS) (H : Hp) (σ : St) (ds : Ds) (D' : Ends) (ds' : Ds) : Fl → Prop
  | .nx => ∀ σ' H' Sh' F', PostS K P Sh F H σ ds ds' σ' H' Sh' F' → D'.nx σ' H'
  | .br => ∀ σ' H' Sh' F', PostS K P Sh F H σ ds ds' σ' H' Sh' F' → D'.bk σ' H'
  | .ct => ∀ σ' H' Sh' F', PostS K P Sh F H σ ds ds' σ' H' Sh' F' → D'.ct σ' H'
  | .rt d => ∀ σ' v H' Sh' G F', PostR K P Sh F H σ ds d ds' σ' v H' Sh' G F' → D'.rt v H'
def tS (K : PySem.W.Frag) (P : List Nat) (r : SS) : TS := fun D' σ H => ∃ Sh F L ds fl ds', Wd K Sh F L H σ ds ∧ r ds = .ok (fl, ds') ∧ Wants K P Sh F H σ ds D' ds' fl
theorem _root_.L2.PS.imp {X : Cx} {s : Stmt} {t t' : TS} (h : PS X s t) (i : ∀ D' σ H, t' D' σ H → t D' σ H) : PS X s t' := ⟨fun pins s σ H D' I x => h.run pins s σ H D' I (i D' σ H x)⟩
theorem _root_.L2.PSs.imp {X : Cx} {s : List Stmt} {t t' : TS} (h : PSs X s t) (i : ∀ D' σ H, t' D' σ H → t D' σ H) : PSs X s t' := ⟨fun pins s σ H D' I x => h.run pins s σ H D' I (i D' σ H x)⟩
section
variable {K : PySem.W.Frag} {X : Cx} {P : List Nat}
theorem Wd.nextS {Sh F L Sh' F' : AS} {H H' : Hp} {σ σ' : St} {ds ds' : Ds} (w : Wd K Sh F L H σ ds) (p : PostS K P Sh F H σ ds ds' σ' H' Sh' F') : Wd K Sh' F' L H' σ' ds' := by
  obtain ⟨x, y⟩ := w.wl.next w.dj p.stp
  refine ⟨p.stp.wf, x, y, p.sl, fun i d e => ?_, p.stp.kp.tab w.tabs⟩
  obtain ⟨q, t⟩ := p.lks i d e
  obtain ⟨v, e', r⟩ := w.lk i d q
  exact ⟨v, t.trans e', r.stp p.stp w.wf w.dj⟩
theorem PostT.s {Sh F : AS} {H : Hp} {σ : St} {ds ds' : Ds} {H' : Hp} {Sh' F' : AS} (p : PostT K Sh F H σ ds ds' H' Sh' F') : PostS K P Sh F H σ ds ds' σ H' Sh' F' := ⟨p.stp, p.sl, .of p.lks, .refl⟩
theorem PostS.refl {Sh F L : AS} {H : Hp} {σ : St} {ds : Ds} (w : Wd K Sh F L H σ ds) : PostS K P Sh F H σ ds ds σ H Sh F := ⟨.refl w.wf, w.sl, .of .refl, .refl⟩
theorem PostS.trans {Sh F Sh1 F1 Sh2 F2 : AS} {H H1 H2 : Hp} {σ σ1 σ2 : St} {ds ds1 ds2 : Ds} (a : PostS K P Sh F H σ ds ds1 σ1 H1 Sh1 F1) (b : PostS K P Sh1 F1 H1 σ1 ds1 ds2 σ2 H2 Sh2 F2) : PostS K P Sh F H σ ds ds2 σ2 H2 Sh2 F2 :=
  ⟨a.stp.trans b.stp, b.sl, a.lks.trans b.lks, a.ag.trans b.ag⟩
theorem PostS.ret {Sh F Sh1 F1 Sh2 G F2 : AS} {H H1 H2 : Hp} {σ σ1 σ2 : St} {ds ds1 ds2 : Ds} {d : D} {v : V} (a : PostS K P Sh F H σ ds ds1 σ1 H1 Sh1 F1) (b : PostR K P Sh1 F1 H1 σ1 ds1 d ds2 σ2 v H2 Sh2 G F2) : PostR K P Sh F H σ ds d ds2 σ2 v H2 Sh2 G F2 :=
  ⟨a.stp.trans b.stp, b.dj, b.rep, b.sl, a.lks.trans b.lks, a.ag.trans b.ag⟩
theorem Wants.behind {Sh F Sh1 F1 : AS} {H H1 : Hp} {σ σ1 : St} {ds ds1 ds2 : Ds} {D' : Ends} {fl : Fl} (a : PostS K P Sh F H σ ds ds1 σ1 H1 Sh1 F1) (w : Wants K P Sh F H σ ds D' ds2 fl) : Wants K P Sh1 F1 H1 σ1 ds1 D' ds2 fl := by
  cases fl with
  | nx => exact fun _ _ _ _ p => w _ _ _ _ (a.trans p)
  | br => exact fun _ _ _ _ p => w _ _ _ _ (a.trans p)
  | ct => exact fun _ _ _ _ p => w _ _ _ _ (a.trans p)
  | rt d => exact fun _ _ _ _ _ _ p => w _ _ _ _ _ _ (a.ret p)
def sNil : SS := fun ds => .ok (.nx, ds)
def sBr : SS := fun ds => .ok (.br, ds)
def sCt : SS := fun ds => .ok (.ct, ds)
def sSeq (a b : SS) : SS := fun ds => (a ds).bind fun p => match p.1 with
  | .nx => b p.2
  | _ => .ok p
theorem ss_nil : PSs X [] (tS X.K P sNil) := pss_nil.imp fun D' σ H ⟨Sh, F, L, ds, fl, ds', w, e, k⟩ => by
  cases e
  exact k _ _ _ _ (.refl w)
theorem ss_cons {s : Stmt} {rest : List Stmt} {a b : SS} (h1 : PS X s (tS X.K P a)) (h2 : PSs X rest (tS X.K P b)) : PSs X (s :: rest) (tS X.K P (sSeq a b)) := by
  refine (pss_cons h1 h2).imp fun D' σ H ⟨Sh, F, L, ds, fl, ds', w, e, k⟩ => ?_
  obtain ⟨⟨f1, ds1⟩, e1, e⟩ := Res.of_bind e
  refine ⟨Sh, F, L, ds, f1, ds1, w, e1, ?_⟩
  cases f1 with
  | nx => exact fun σ1 H1 Sh1 F1 p => ⟨Sh1, F1, L, ds1, fl, ds', w.nextS p, e, k.behind p⟩
  | br => cases e; exact k
  | ct => cases e; exact k
  | rt d => cases e; exact k
theorem ss_one {s : Stmt} {a : SS} (h1 : PS X s (tS X.K P a)) : PSs X [s] (tS X.K P a) := pss_one h1
def sIf (c : BS) (a b : SS) : SS := fun ds => (c ds).bind fun p => if p.1 = true then a p.2 else b p.2
theorem s_if {c : Expr} {t u : List Stmt} {pos : Pos} {rc : BS} {a b : SS} (hc : PT X c (tT X.K rc)) (ha : PSs X t (tS X.K P a)) (hb : PSs X u (tS X.K P b)) : PS X (.If c t u pos) (tS X.K P (sIf rc a b)) := by
  refine (ps_if hc ha hb).imp fun D' σ H ⟨Sh, F, L, ds, fl, ds', w, e, k⟩ => ?_
  obtain ⟨⟨c1, ds1⟩, e1, e⟩ := Res.of_bind e
  refine ⟨Sh, F, L, ds, c1, ds1, w, e1, fun H1 Sh1 F1 p => ?_⟩
  cases c1 with
  | true => exact iteT ⟨Sh1, F1, L, ds1, fl, ds', w.nextT p, e, k.behind p.s⟩
  | false => exact iteF ⟨Sh1, F1, L, ds1, fl, ds', w.nextT p, e, k.behind p.s⟩
def sRet (r : ES) : SS := fun ds => (r ds).bind fun p => .ok (.rt p.1, p.2)
theorem s_ret {e : Expr} {pos : Pos} {r : ES} (h : PE X e (tE X.K r)) : PS X (.Return (some e) pos) (tS X.K P (sRet r)) := by
  refine (ps_ret h).imp fun D' σ H ⟨Sh, F, L, ds, fl, ds', w, e, k⟩ => ?_
  obtain ⟨⟨d, ds1⟩, e1, e⟩ := Res.of_bind e
  cases e
  exact ⟨Sh, F, L, ds, d, ds1, w, e1, fun v H' Sh' G F' p => k _ _ _ _ _ _ ⟨p.stp, p.dj, p.rep, p.sl, .of p.lks, .refl⟩⟩
def sDrop (r : ES) : SS := fun ds => (r ds).bind fun p => .ok (.nx, p.2)
theorem s_expr {e : Expr} {pos : Pos} {r : ES} (h : PE X e (tE X.K r)) (hs : swapsWith e none pos.line X.env = pure false := by rfl) : PS X (.Expr e pos) (tS X.K P (sDrop r)) := by
  refine (ps_expr h hs).imp fun D' σ H ⟨Sh, F, L, ds, fl, ds', w, e, k⟩ => ?_
  obtain ⟨⟨d, ds1⟩, e1, e⟩ := Res.of_bind e
  cases e
  exact ⟨Sh, F, L, ds, d, ds1, w, e1, fun v H' Sh' G F' p => k _ _ _ _ p.drop.s⟩

abbrev GS := D → Ds → Res Ds
structure Hand (K : PySem.W.Frag) (Sh G F L : AS) (H : Hp) (σ : St) (ds : Ds) (v : V) (d : D) : Prop where
  wd : Wd K Sh F L H σ ds
  rep : Rep K Sh H v d G
  dj : Dj G F
  wf : Wf Sh G H
  dl : Dj G L
def tG (K : PySem.W.Frag) (P : List Nat) (g : GS) : TG := fun v σ H Q => ∃ Sh G F L ds d ds', Hand K Sh G F L H σ ds v d ∧ g d ds = .ok ds' ∧ ∀ σ' H' Sh' F', PostS K P Sh (un G F) H σ ds ds' σ' H' Sh' F' → Q σ' H'
theorem _root_.L2.PG.imp {e : Expr} {t t' : TG} (h : PG X e t) (i : ∀ v σ H Q, t' v σ H Q → t v σ H Q) : PG X e t' := ⟨fun pins s σ H v u Q I r x => h.run pins s σ H v u Q I r (i v σ H Q x)⟩
theorem Sl.put {Sh F G : AS} {H : Hp} {σ : St} {ds : Ds} {i : Nat} {d : D} {v : V} (sl : Sl K Sh H σ ds F) (r : Rep K Sh H v d G) (dj : Dj G F) : Sl K Sh H (σ.set i (some v)) (ds.set i (.own d)) (un G F) := by
  obtain ⟨l, g, h1, h2, h3⟩ := sl
  refine ⟨by rw [List.length_set, List.length_set]; exact l, fun j => if j = i then G else g j, fun j d' q => ?_, fun j => ?_, fun j k n => ?_⟩
  · rcases get_set q with ⟨rfl, z⟩ | ⟨n, z⟩
    · cases z
      have hj : j < σ.length := by
        have := (List.getElem?_eq_some_iff.mp q).1
        rw [List.length_set] at this
        omega
      refine ⟨v, List.getElem?_set_self hj, ?_⟩
      dsimp only
      rw [if_pos rfl]
      exact r
    · obtain ⟨v', q1, q2⟩ := h1 j d' z
      refine ⟨v', by rw [List.getElem?_set_ne (Ne.symm n)]; exact q1, ?_⟩
      dsimp only
      rw [if_neg n]
      exact q2
  · dsimp only
    by_cases z : j = i
    · rw [if_pos z]; exact .l
    · rw [if_neg z]; exact (h2 j).trans .r
  · dsimp only
    by_cases z : j = i
    · rw [if_pos z, if_neg (fun y => n (z.trans y.symm))]; exact dj.sub .refl (h2 k)
    · rw [if_neg z]
      by_cases y : k = i
      · rw [if_pos y]; exact (dj.sub .refl (h2 j)).symm
      · rw [if_neg y]; exact h3 j k n
theorem LkS.put {ds : Ds} {σ : St} {i : Nat} {d : D} {x : Option V} : LkS ds (ds.set i (.own d)) σ (σ.set i x) := fun j e h => by
  rcases get_set h with ⟨_, z⟩ | ⟨n, z⟩
  · cases z
  · exact ⟨z, List.getElem?_set_ne (Ne.symm n)⟩
def gSet (i : Nat) : GS := fun d ds => .ok (ds.set i (.own d))
theorem g_name {i : Nat} {x : Str} {pos : Pos} (hN : X.N.Nodup) (hP : i ∉ P := by decide) (hi : X.N[i]? = some x := by rfl) (hx : Loc X.env.scope x := by first | exact Or.inl rfl | exact Or.inr rfl) (hf : X.fn x = true ∨ X.env.scope.names.lookup x = some .local := by first | exact .inl rfl | exact .inr rfl | assumption) : PG X (.Name x pos) (tG X.K P (gSet i)) := by
  refine (pg_name hN hi hx hf).imp fun v σ H Q ⟨Sh, G, F, L, ds, d, ds', h, e, k⟩ => ?_
  cases e
  have wu : Wf Sh (un G F) H := ⟨Dj.un_l h.wf.dj h.wd.wf.dj, fun b z => z.elim (h.wf.lf b) (h.wd.wf.lf b), h.wf.ls⟩
  exact k _ _ _ _ ⟨.refl wu, h.wd.sl.put h.rep h.dj, .put, .set hP⟩
def sSet (g : GS) (r : ES) : SS := fun ds => (r ds).bind fun p => (g p.1 p.2).bind fun ds' => .ok (.nx, ds')
theorem Post.hand {Sh F L : AS} {H : Hp} {σ : St} {ds ds1 : Ds} {d : D} {v : V} {H1 : Hp} {Sh1 G F1 : AS} (w : Wd K Sh F L H σ ds) (p : Post K Sh F H σ ds d ds1 v H1 Sh1 G F1) : Hand K Sh1 G F1 L H1 σ ds1 v d := by
  obtain ⟨x, y⟩ := w.wl.next w.dj p.stp
  exact ⟨w.next p.stp p.lks p.sl, p.rep, p.dj, p.stp.wf.sub .l, (y.sub .refl .l).symm⟩
theorem s_asg {tg e : Expr} {pos : Pos} {r : ES} {g : GS} (h : PE X e (tE X.K r)) (hg : PG X tg (tG X.K P g)) (hs : swapsWithSole [tg] e pos.line X.env = pure false := by rfl) (hw : swappedStores [tg] e X.env = pure none := by rfl)
    (h1 : (assignEach [tg] X.env).map (·.2) = [assign tg X.env] := by rfl) : PS X (.Assign [tg] e pos) (tS X.K P (sSet g r)) := by
  refine (ps_asg h hg hs hw h1).imp fun D' σ H ⟨Sh, F, L, ds, fl, ds', w, e, k⟩ => ?_
  obtain ⟨⟨d, ds1⟩, e1, e⟩ := Res.of_bind e
  obtain ⟨ds2, e2, e⟩ := Res.of_bind e
  cases e
  refine ⟨Sh, F, L, ds, d, ds1, w, e1, fun v H1 Sh1 G F1 p => ?_⟩
  exact ⟨Sh1, G, F1, L, ds1, d, ds', p.hand w, e2, fun σ' H' Sh' F' q => k _ _ _ _ ⟨p.stp.trans q.stp, q.sl, (LkS.of p.lks).trans q.lks, q.ag⟩⟩
theorem s_set {i : Nat} {x : Str} {e : Expr} {pos pos' : Pos} {r : ES} (h : PE X e (tE X.K r)) (hN : X.N.Nodup) (hP : i ∉ P := by decide) (hi : X.N[i]? = some x := by rfl) (hx : Loc X.env.scope x := by first | exact Or.inl rfl | exact Or.inr rfl) (hs : swapsWith e (some (.Name x pos')) pos.line X.env = pure false := by rfl) (hf : X.fn x = true ∨ X.env.scope.names.lookup x = some .local := by first | exact .inl rfl | exact .inr rfl | assumption) :
    PS X (.Assign [.Name x pos'] e pos) (tS X.K P (sSet (gSet i) r)) := by
  refine (ps_set hN hi hx h hs hf).imp fun D' σ H ⟨Sh, F, L, ds, fl, ds', w, e, k⟩ => ?_
  obtain ⟨⟨d, ds1⟩, e1, e⟩ := Res.of_bind e
  obtain ⟨ds2, e2, e⟩ := Res.of_bind e
  cases e
  cases e2
  refine ⟨Sh, F, L, ds, d, ds1, w, e1, fun v H1 Sh1 G F1 p => ?_⟩
  exact k _ _ _ _ ⟨p.stp, p.sl.put p.rep p.dj, (LkS.of p.lks).trans .put, .set hP⟩
def gAll : List GS → List D → Ds → Res Ds
  | [], [], ds => .ok ds
  | g :: gs, x :: xs, ds => (g x ds).bind fun ds1 => gAll gs xs ds1
  | _, _, _ => .bad
def gTup' (gs : List GS) : GS := fun d ds => match d with
  | .tup xs => gAll gs xs ds
  | .lst _ xs => if isFzs xs = true then gAll gs xs ds else .bad
  | _ => .bad
def tGs (K : PySem.W.Frag) (P : List Nat) (gs : List GS) : TGs := fun vs σ H Q => ∃ Sh F L ds xs ds', Wd K Sh F L H σ ds ∧ Reps K Sh H vs xs emp ∧ gAll gs xs ds = .ok ds' ∧ ∀ σ' H' Sh' F', PostS K P Sh F H σ ds ds' σ' H' Sh' F' → Q σ' H'
theorem _root_.L2.PGs.imp {es : List Expr} {t t' : TGs} (h : PGs X es t) (i : ∀ v σ H Q, t' v σ H Q → t v σ H Q) : PGs X es t' := ⟨fun pins s σ H v u Q I r x => h.run pins s σ H v u Q I r (i v σ H Q x)⟩
theorem gs_nil : PGs X [] (tGs X.K P []) := pgs_nil.imp fun vs σ H Q ⟨Sh, F, L, ds, xs, ds', w, r, e, k⟩ => by
  cases r with
  | nil =>
    cases e
    exact ⟨rfl, k _ _ _ _ (.refl w)⟩
  | cons => cases e
theorem Wf.emp {Sh F : AS} {H : Hp} (w : Wf Sh F H) : Wf Sh emp H := ⟨.nil_l, fun _ z => z.elim, w.ls⟩
theorem PostS.narrow {Sh F : AS} {H : Hp} {σ : St} {ds ds' : Ds} {σ' : St} {H' : Hp} {Sh' F' : AS} (p : PostS K P Sh (un emp F) H σ ds ds' σ' H' Sh' F') : PostS K P Sh F H σ ds ds' σ' H' Sh' F' :=
  ⟨⟨p.stp.kp.wk (.un (fun _ z => z.elim) .refl), p.stp.sh, fun b z => (p.stp.shn b z).elim .inl fun y => y.elim (fun t => t.elim (fun f => f.elim) fun f => .inr (.inl f)) fun t => .inr (.inr t), fun b z => (p.stp.fn b z).elim (fun y => y.elim (fun f => f.elim) .inl) .inr, p.stp.wf⟩, p.sl, p.lks, p.ag⟩
theorem gs_cons {e : Expr} {es : List Expr} {g : GS} {gs : List GS} (h : PG X e (tG X.K P g)) (t : PGs X es (tGs X.K P gs)) (hs : (assignEach (e :: es) X.env).map (·.2) = assign e X.env :: (assignEach es X.env).map (·.2) := by rfl) : PGs X (e :: es) (tGs X.K P (g :: gs)) := by
  refine (pgs_cons h t hs).imp fun vs σ H Q ⟨Sh, F, L, ds, xs, ds', w, r, e, k⟩ => ?_
  cases r with
  | nil => cases e
  | cons a b c d dj =>
    rename_i v1 d1 vs1 ds1 G1 G2
    obtain ⟨ds2, e1, e2⟩ := Res.of_bind e
    refine ⟨_, _, rfl, Sh, emp, F, L, ds, _, ds2, ⟨w, a.mono c, .nil_l, w.wf.emp, .nil_l⟩, e1, fun σ1 H1 Sh1 F1 p => ?_⟩
    have p' : PostS X.K P Sh F H σ ds ds2 σ1 H1 Sh1 F1 := ⟨⟨p.stp.kp.wk (.un (fun _ z => z.elim) .refl), p.stp.sh, fun b z => (p.stp.shn b z).elim .inl fun y => y.elim (fun t => t.elim (fun f => f.elim) fun f => .inr (.inl f)) fun t => .inr (.inr t), fun b z => (p.stp.fn b z).elim (fun y => y.elim (fun f => f.elim) .inl) .inr, p.stp.wf⟩, p.sl, p.lks, p.ag⟩
    exact ⟨Sh1, F1, L, ds2, _, ds', w.nextS p', (b.mono d).keep p'.stp.kp w.wf.dj p'.stp.sh .nil_l, e2, fun σ' H' Sh' F' q => k _ _ _ _ (p'.trans q)⟩
theorem _root_.L2.PG.or {e : Expr} {t t' : TG} (h : PG X e t) (h' : PG X e t') : PG X e (fun v σ H Q => t v σ H Q ∨ t' v σ H Q) :=
  ⟨fun pins s σ H v u Q I r x => x.elim (h.run pins s σ H v u Q I r) (h'.run pins s σ H v u Q I r)⟩
theorem gAll_len : ∀ (gs : List GS) (xs : List D) (ds ds' : Ds), gAll gs xs ds = .ok ds' → xs.length = gs.length := by
  intro gs
  induction gs with
  | nil => intro xs ds ds' e; cases xs with
    | nil => rfl
    | cons x xs => cases e
  | cons g gs ih => intro xs ds ds' e; cases xs with
    | nil => cases e
    | cons x xs =>
      obtain ⟨ds1, _, e2⟩ := Res.of_bind e
      simp [ih xs ds1 ds' e2]
theorem PostS.wider {Sh G F : AS} {H : Hp} {σ : St} {ds ds' : Ds} {σ' : St} {H' : Hp} {Sh' F' : AS} (p : PostS K P Sh F H σ ds ds' σ' H' Sh' F') : PostS K P Sh (un G F) H σ ds ds' σ' H' Sh' F' :=
  ⟨⟨p.stp.kp.wk .r, p.stp.sh, fun b z => (p.stp.shn b z).elim .inl fun y => y.elim (fun t => .inr (.inl (.inr t))) fun t => .inr (.inr t), fun b z => (p.stp.fn b z).elim (fun y => .inl (.inr y)) .inr, p.stp.wf⟩, p.sl, p.lks, p.ag⟩
theorem g_tup {es : List Expr} {k : Nat} {pos : Pos} {gs : List GS} {n : Nat} (hc : X.calm = true) (h : PGs X es (tGs X.K P gs)) (hl : gs.length = n := by rfl) (hn : (assignEach es X.env).length = n := by rfl) (hst : (assignEach es X.env).findIdx? (·.1) = none := by rfl) : PG X (.Tuple es k pos) (tG X.K P (gTup' gs)) := by
  refine ((pg_tup hc h hn hst).or (pg_unl hc h hn hst)).imp fun v σ H Q ⟨Sh, G, F, L, ds, d, ds', hd, e, q⟩ => ?_
  cases d <;> simp only [gTup'] at e <;> first | (cases e; done) | skip
  · rename_i xs
    obtain ⟨a, vs, rfl, ha, ra⟩ := hd.rep.tupI
    exact .inl ⟨a, vs, rfl, ha, by rw [ra.length, gAll_len gs xs ds ds' e, hl], Sh, F, L, ds, xs, ds', hd.wd, ra, e, fun σ' H' Sh' F' p => q _ _ _ _ p.wider⟩
  · split at e
    · rename_i xs c
      obtain ⟨a, vs, rfl, ha, ra⟩ := hd.rep.lst
      exact .inr ⟨a, vs, rfl, ha.sq, by rw [ra.length, gAll_len gs xs ds ds' e, hl], Sh, F, L, ds, xs, ds', hd.wd, ra.ofFz c, e, fun σ' H' Sh' F' p => q _ _ _ _ p.wider⟩
    · cases e
end
end Vd
end
section
namespace Vd
open PySem L2

def wh (c : BS) (b : SS) : Nat → SS
  | 0 => fun _ => .bad
  | n + 1 => fun ds => (c ds).bind fun p => if p.1 = true then (b p.2).bind fun q => match q.1 with
      | .nx => wh c b n q.2
      | .ct => wh c b n q.2
      | .br => .ok (.nx, q.2)
      | .rt d => .ok (.rt d, q.2)
    else .ok (.nx, p.2)
def whFuel : Nat := 10 ^ 40
def sWhile (c : BS) (b : SS) : SS := wh c b whFuel
section
variable {K : PySem.W.Frag} {X : Cx} {P : List Nat}
theorem s_while {c : Expr} {body : List Stmt} {pos : Pos} {rc : BS} {rb : SS} (hp : PassesOwn (model X.prog X.w) X.A X.env X.xe) (hc : PT X c (tT X.K rc)) (hb : PSs X body (tS X.K P rb)) : PS X (.While c body [] pos) (tS X.K P (sWhile rc rb)) := by
  refine (ps_while hp hc hb).imp fun D' σ H ⟨Sh, F, L, ds, fl, ds', w, e, k⟩ => ?_
  refine ⟨fun m σ1 H1 => ∃ Sh1 F1 ds1, PostS X.K P Sh F H σ ds ds1 σ1 H1 Sh1 F1 ∧ wh rc rb m ds1 = .ok (fl, ds'), ⟨whFuel, Sh, F, ds, .refl w, e⟩, ?_⟩
  rintro m σ1 H1 ⟨Sh1, F1, ds1, p1, e1⟩
  have w1 := w.nextS p1
  cases m with
  | zero => cases e1
  | succ n =>
    obtain ⟨⟨c1, ds2⟩, e2, e3⟩ := Res.of_bind e1
    refine ⟨Sh1, F1, L, ds1, c1, ds2, w1, e2, fun H2 Sh2 F2 p2 => ?_⟩
    have p12 := p1.trans p2.s
    cases c1 with
    | false =>
      cases e3
      exact iteF (k _ _ _ _ p12)
    | true =>
      rw [if_pos rfl] at e3
      obtain ⟨⟨f1, ds3⟩, e4, e5⟩ := Res.of_bind e3
      refine iteT ⟨fun σ' H' => ∃ Sh3 F3 ds3, PostS X.K P Sh F H σ ds ds3 σ' H' Sh3 F3 ∧ wh rc rb n ds3 = .ok (fl, ds'), fun σ' H' ⟨Sh3, F3, ds3, p3, e3⟩ => ⟨n, Nat.lt_succ_self n, Sh3, F3, ds3, p3, e3⟩, Sh2, F2, L, ds2, f1, ds3, w.nextS p12, e4, ?_⟩
      cases f1 with
      | nx => exact fun σ3 H3 Sh3 F3 p3 => ⟨Sh3, F3, ds3, p12.trans p3, e5⟩
      | ct => exact fun σ3 H3 Sh3 F3 p3 => ⟨Sh3, F3, ds3, p12.trans p3, e5⟩
      | br =>
        cases e5
        exact fun σ3 H3 Sh3 F3 p3 => k _ _ _ _ (p12.trans p3)
      | rt d =>
        cases e5
        exact fun σ3 v H3 Sh3 G3 F3 p3 => k _ _ _ _ _ _ (p12.ret p3)

def tVS (K : PySem.W.Frag) (P : List Nat) (vw : List (V × D)) (r : SS) : TS := fun D' σ H => ∃ Sh F L ds fl ds', Wd K Sh F L H σ ds ∧ (∀ p ∈ vw, Rep K Sh H p.1 p.2 L) ∧ r ds = .ok (fl, ds') ∧ Wants K P Sh F H σ ds D' ds' fl
abbrev OpS := (D → SS) → SS
def OpdOkS (K : PySem.W.Frag) (P : List Nat) (te : TE) (o : OpS) : Prop := ∀ vw k D' σ H, tVS K P vw (o k) D' σ H → te σ H fun x H1 => ∃ e, tVS K P ((x, e) :: vw) (k e) D' σ H1
inductive OK where
  | v (r : ES) | p (i : Nat) | z (i : Nat)
def OK.e : OK → Opd
  | .v r => ov r
  | .p i => op i
  | .z i => oz i
def svv (r : ES) : OpS := fun k ds => (r ds).bind fun q => k q.1.frz q.2
def relk (i : Nat) (d : D) (ds : Ds) : Ds := match ds[i]? with
  | some (.lk _) => ds.set i (.own d)
  | _ => ds
def spp (i : Nat) : OpS := fun k ds => match ds[i]? with
  | some (.own d) => (k d (ds.set i (.lk d))).bind fun q => .ok (q.1, relk i d q.2)
  | some (.lk d) => k d ds
  | _ => .bad
def szz (i : Nat) : OpS := fun k ds => match ds[i]? with
  | some (.own d) => (k d.frz1 (ds.set i (.lk d.frz1))).bind fun q => .ok (q.1, relk i d.frz1 q.2)
  | some (.lk d) => if d.isFz1 = true then k d ds else .bad
  | _ => .bad
def OK.s : OK → OpS
  | .v r => svv r
  | .p i => spp i
  | .z i => szz i
theorem svv_ok {r : ES} : OpdOkS K P (tE K r) (svv r) := by
  rintro vw k D' σ H ⟨Sh, F, L, ds, fl, ds', w, hv, e, q⟩
  obtain ⟨⟨d1, ds1⟩, e1, e⟩ := Res.of_bind e
  refine ⟨Sh, F, L, ds, d1, ds1, w, e1, fun v1 H1 Sh1 G1 F1 p1 => ?_⟩
  obtain ⟨Sh2, s2, rp, w2, lk⟩ := p1.freeze w
  refine ⟨d1.frz, Sh2, F1, L, ds1, fl, ds', w2, fun p hp => ?_, e, q.behind ⟨s2, w2.sl, .of lk, .refl⟩⟩
  rcases List.mem_cons.mp hp with rfl | hp
  · exact rp.mono .nil
  · exact views hv s2 w.wf w.dj p hp
theorem lockS {Sh F L : AS} {H : Hp} {σ : St} {ds : Ds} {i : Nat} {d : D} (w : Wd K Sh F L H σ ds) (q : ds[i]? = some (.own d)) : ∃ v g F1, σ[i]? = some (some v) ∧ Rep K Sh H v d g ∧ Wd K Sh F1 (un L g) H σ (ds.set i (.lk d)) ∧
    ∀ {D' : Ends} {fl : Fl} {ds2 : Ds}, Wants K P Sh F H σ ds D' (relk i d ds2) fl → Wants K P Sh F1 H σ (ds.set i (.lk d)) D' ds2 fl := by
  obtain ⟨v, g, e', s, rp, sl⟩ := w.sl.out q
  obtain ⟨a, b⟩ := split_off w.wf s
  have il : i < ds.length := (List.getElem?_eq_some_iff.mp q).1
  refine ⟨v, g, _, e', rp, ⟨w.wf.sub fun _ z => z.1, ⟨Dj.un_l w.wl.dj (w.wf.sub s).dj, fun b z => z.elim (w.wl.lf b) fun y => w.wf.lf b (s b y), w.wf.ls⟩, Dj.un_l (w.dj.sub .refl fun _ z => z.1) b, sl _ (fun _ z => nomatch z), (fun j d' e => ?_), w.tabs⟩, fun {D' fl ds2} wa => ?_⟩
  · rcases get_set e with ⟨rfl, z⟩ | ⟨n, z⟩
    · cases z; exact ⟨v, e', rp.mono .r⟩
    · obtain ⟨u, h1, h2⟩ := w.lk j d' z
      exact ⟨u, h1, h2.mono .l⟩
  · have fin : ∀ {Sh2 F2 : AS} {H2 : Hp} {σ2 : St}, Stp Sh (fun b => F b ∧ ¬ g b) H Sh2 F2 H2 → Sl K Sh2 H2 σ2 ds2 F2 → (∀ d', ds2[i]? = some (.lk d') → σ2[i]? = σ[i]?) →
        Stp Sh F H Sh2 (un g F2) H2 ∧ Sl K Sh2 H2 σ2 (relk i d ds2) (un g F2) ∧ Dj g F2 := fun {Sh2 F2 H2 σ2} st sl2 hl => by
      obtain ⟨x, y⟩ := st.beside (w.wf.sub s) b
      refine ⟨a.trans x, ?_, y⟩
      unfold relk
      split
      · rename_i d' e2
        exact sl2.into ((hl d' e2).trans e') (rp.stp st (w.wf.sub fun _ z => z.1) b) y
      · exact sl2.mono .r
    have lks : ∀ {σ2 : St}, LkS (ds.set i (.lk d)) ds2 σ σ2 → LkS ds (relk i d ds2) σ σ2 := fun {σ2} h j d' e => by
      unfold relk at e
      split at e
      · rcases get_set e with ⟨_, z⟩ | ⟨n, z⟩
        · cases z
        · obtain ⟨t, u⟩ := h j d' z
          rcases get_set t with ⟨m, _⟩ | ⟨_, m⟩
          · exact absurd m n
          · exact ⟨m, u⟩
      · rename_i no
        obtain ⟨t, u⟩ := h j d' e
        rcases get_set t with ⟨m, _⟩ | ⟨_, m⟩
        · exact absurd (m ▸ e) (no d')
        · exact ⟨m, u⟩
    cases fl with
    | nx => exact fun σ2 H2 Sh2 F2 p => let ⟨x, y, _⟩ := fin p.stp p.sl fun d' e => (p.lks i d' e).2; wa _ _ _ _ ⟨x, y, lks p.lks, p.ag⟩
    | br => exact fun σ2 H2 Sh2 F2 p => let ⟨x, y, _⟩ := fin p.stp p.sl fun d' e => (p.lks i d' e).2; wa _ _ _ _ ⟨x, y, lks p.lks, p.ag⟩
    | ct => exact fun σ2 H2 Sh2 F2 p => let ⟨x, y, _⟩ := fin p.stp p.sl fun d' e => (p.lks i d' e).2; wa _ _ _ _ ⟨x, y, lks p.lks, p.ag⟩
    | rt z =>
      intro σ2 v2 H2 Sh2 G2 F2 p
      obtain ⟨x, y⟩ := p.stp.beside (w.wf.sub s) b
      refine wa σ2 v2 H2 Sh2 G2 (un g F2) ⟨(a.trans x).weak (.un (Sub.trans .l .r) (.un .l (Sub.trans .r .r))), Dj.un_r (y.sub .refl .l).symm p.dj, p.rep, ?_, lks p.lks, p.ag⟩
      unfold relk
      split
      · rename_i d' e2
        exact p.sl.into ((p.lks i d' e2).2.trans e') (rp.stp p.stp (w.wf.sub fun _ z => z.1) b) (y.sub .refl .r)
      · exact p.sl.mono .r
theorem spp_ok {i : Nat} : OpdOkS K P (tVar i) (spp i) := by
  rintro vw k D' σ H ⟨Sh, F, L, ds, fl, ds', w, hv, e, q⟩
  unfold spp at e
  split at e
  · rename_i d0 qi
    obtain ⟨⟨z, ds2⟩, e1, e2⟩ := Res.of_bind e
    cases e2
    obtain ⟨v, g, F1, e', rp, w1, back⟩ := lockS (P := P) w qi
    refine ⟨v, e', d0, Sh, F1, un L g, _, z, ds2, w1, fun p hp => ?_, e1, back q⟩
    rcases List.mem_cons.mp hp with rfl | hp
    · exact rp.mono .r
    · exact (hv p hp).mono .l
  · rename_i d0 qi
    obtain ⟨v, e', r⟩ := w.lk i _ qi
    refine ⟨v, e', d0, Sh, F, L, ds, fl, ds', w, fun p hp => ?_, e, q⟩
    rcases List.mem_cons.mp hp with rfl | hp
    · exact r
    · exact hv p hp
  · cases e
theorem szz_ok {i : Nat} : OpdOkS K P (tVar i) (szz i) := by
  rintro vw k D' σ H ⟨Sh, F, L, ds, fl, ds', w, hv, e, q⟩
  unfold szz at e
  split at e
  · rename_i d0 qi
    obtain ⟨Sh1, F1, s, w1, lk⟩ := share1 w qi
    refine spp_ok vw k D' σ H ⟨Sh1, F1, L, ds.set i (.own d0.frz1), fl, ds', w1, views hv s w.wf w.dj, ?_, q.behind ⟨s, w1.sl, .of lk, .refl⟩⟩
    have il : i < ds.length := (List.getElem?_eq_some_iff.mp qi).1
    unfold spp
    rw [List.getElem?_set_self il]
    dsimp only
    rw [set_set]
    exact e
  · rename_i d0 qi
    split at e
    · refine spp_ok vw k D' σ H ⟨Sh, F, L, ds, fl, ds', w, hv, ?_, q⟩
      unfold spp
      rw [qi]
      exact e
    · cases e
  · cases e
end
structure EK (X : Cx) (P : List Nat) (e : Expr) (o : OK) : Prop where
  ex : ∃ t : TE, PE X e t ∧ OpdOk X.K t o.e ∧ OpdOkS X.K P t o.s ∧ ∀ {σ H} {Q Q' : VK}, (∀ x H, Q x H → Q' x H) → t σ H Q → t σ H Q'
section
variable {K : PySem.W.Frag} {X : Cx} {P : List Nat}
theorem ek {e : Expr} {r : ES} (h : PE X e (tE X.K r)) : EK X P e (.v r) := ⟨_, h, ov_ok, svv_ok, tE_mono⟩
theorem ek_z {i : Nat} {x : Str} {pos : Pos} (hN : X.N[i]? = some x := by rfl) (hv : Vis X.env.scope x := by first | exact Or.inl rfl | exact Or.inr (Or.inl rfl) | exact Or.inr (Or.inr rfl)) (hd : (x == ("__debug__" : Str)) = false := by decide)
    (hcd : (x == ("__classdict__" : Str)) = false := by decide) : EK X P (.Name x pos) (.z i) := ⟨_, pe_var hN hv hd hcd, oz_ok, szz_ok, tVar_mono⟩
def sOps : List OK → (List D → SS) → SS
  | [], k => k []
  | o :: os, k => o.s fun x => sOps os fun xs => k (x :: xs)
def eOps (os : List OK) (k : List D → ES) : ES := rOps (os.map OK.e) k
structure EKs (X : Cx) (P : List Nat) (es : List Expr) (os : List OK) (t : TA) : Prop where
  pa : PA X es t
  e : ∀ vw k σ H Q, tV X.K vw (eOps os k) σ H Q → t σ H fun vs H1 => ∃ ds, vs.length = ds.length ∧ tV X.K (vs.zip ds ++ vw) (k ds) σ H1 Q
  s : ∀ vw k D' σ H, tVS X.K P vw (sOps os k) D' σ H → t σ H fun vs H1 => ∃ ds, vs.length = ds.length ∧ tVS X.K P (vs.zip ds ++ vw) (k ds) D' σ H1
  mono : ∀ {σ H} {Q Q' : List V → Hp → Prop}, (∀ x H, Q x H → Q' x H) → t σ H Q → t σ H Q'
theorem eks_nil : EKs X P [] [] tNil := ⟨pa_nil, fun vw k σ H Q h => ⟨[], rfl, h⟩, fun vw k D' σ H h => ⟨[], rfl, h⟩, fun h k => h _ _ k⟩
theorem tVS_sub {vw vw' : List (V × D)} {r : SS} {D' : Ends} {σ H} (h : tVS K P vw r D' σ H) (s : ∀ p ∈ vw', p ∈ vw) : tVS K P vw' r D' σ H := by
  obtain ⟨Sh, F, L, ds, d, ds', w, hv, e, q⟩ := h
  exact ⟨Sh, F, L, ds, d, ds', w, fun p hp => hv p (s p hp), e, q⟩
theorem zip_in {v : V} {d : D} {vs : List V} {ds : List D} {vw : List (V × D)} : ∀ p ∈ (v :: vs).zip (d :: ds) ++ vw, p ∈ vs.zip ds ++ ((v, d) :: vw) := fun p hp => by
  simp only [List.zip_cons_cons, List.cons_append, List.mem_cons, List.mem_append] at hp ⊢
  rcases hp with hp | hp | hp
  · exact .inr (.inl hp)
  · exact .inl hp
  · exact .inr (.inr hp)
theorem eks_cons {e : Expr} {es : List Expr} {o : OK} {os : List OK} {t : TA} (h : EK X P e o) (tl : EKs X P es os t) (hs : starEach (e :: es) X.env = (false, eval e X.env) :: starEach es X.env := by rfl) : ∃ t, EKs X P (e :: es) (o :: os) t := by
  obtain ⟨ta, a1, a2, a2s, a3⟩ := h
  refine ⟨_, pa_cons a1 tl.pa hs, fun vw k σ H Q h => ?_, fun vw k D' σ H h => ?_, fun h k => a3 (fun x H k => tl.mono (fun xs H k => h _ _ k) k) k⟩
  · refine a3 (fun x H1 ⟨d, h1⟩ => ?_) (a2 vw _ σ H Q h)
    exact tl.mono (fun vs H2 ⟨ds, hl, h2⟩ => ⟨d :: ds, by simp [hl], tV_sub h2 zip_in⟩) (tl.e _ _ σ H1 Q h1)
  · refine a3 (fun x H1 ⟨d, h1⟩ => ?_) (a2s vw _ D' σ H h)
    exact tl.mono (fun vs H2 ⟨ds, hl, h2⟩ => ⟨d :: ds, by simp [hl], tVS_sub h2 zip_in⟩) (tl.s _ _ D' σ H1 h1)

def IterRel (K : PySem.W.Frag) (f : List D → Res (List D)) (r : List V → Hp → (It → Hp → Prop) → Prop) : Prop := ∀ (Sh L : AS) (H : Hp) (vs : List V) (ds items : List D) (R : It → Hp → Prop), Views K Sh H L vs ds → f ds = .ok items →
  (∀ J Y, Walk J items.length (fun H' => ∃ Sh', Views K Sh' H' L vs ds) Y → (∀ i H1 Sh1 x H2, i < items.length → Views K Sh1 H1 L vs ds → Y i H1 x H2 → ∃ d Gx, items[i]? = some d ∧ Nw H1 H2 Gx ∧ ∀ M, Rep K Sh1 H2 x d M) → R J H) → r vs H R
structure ITO (X : Cx) (P : List Nat) (tg iter : Expr) (os : List OK) (f : List D → Res (List D)) : Prop where
  ex : ∃ (t : TA) (r : List V → Hp → (It → Hp → Prop) → Prop), PI X tg iter (fun σ H R => t σ H fun vs H1 => r vs H1 R) ∧ IterRel X.K f r ∧
    (∀ vw k σ H Q, tV X.K vw (eOps os k) σ H Q → t σ H fun vs H1 => ∃ ds, vs.length = ds.length ∧ tV X.K (vs.zip ds ++ vw) (k ds) σ H1 Q) ∧
    (∀ vw k D' σ H, tVS X.K P vw (sOps os k) D' σ H → t σ H fun vs H1 => ∃ ds, vs.length = ds.length ∧ tVS X.K P (vs.zip ds ++ vw) (k ds) D' σ H1) ∧
    ∀ {σ H} {Q Q' : List V → Hp → Prop}, (∀ x H, Q x H → Q' x H) → t σ H Q → t σ H Q'
def rSeqI (K : PySem.W.Frag) (x : V) (H : Hp) (R : It → Hp → Prop) : Prop := (∃ a, x = .ref a ∧ (∃ xs, SqL K H a xs) ∧ R (Itl K a) H) ∨ (∃ a, x = .ref a ∧ (∃ xs, SqT K H a xs) ∧ R (Itt K a) H) ∨ ∃ s, x = .str s ∧ R (Its s) H
theorem pi_seq {tg l : Expr} {tl : TE} (hl : PE X l tl) : PI X tg l (fun σ H R => tl σ H fun x H1 => rSeqI X.K x H1 R) := by
  refine ⟨fun pins s σ H R I h => ?_⟩
  refine thn (hl.run pins s σ H _ I h) fun v s1 ⟨x, H1, I1, r1, q1⟩ => ?_
  rcases q1 with ⟨a, e, ⟨xs, hq⟩, q⟩ | ⟨a, e, ⟨xs, hq⟩, q⟩ | ⟨x, ex, q⟩
  · subst e
    cases r1
    obtain ⟨its, rv, p, hz⟩ := I1.list hq
    refine wpAny_pyIter_list p.isList ?_
    refine ⟨s1.heap.objs.size, [s1.heap.objs.size], _, _, H1, rfl, I1.kept (t' := s1.toks) fun b o e => Heap.get?_push_of_some _ e, turn_list a _, ⟨_, Heap.get?_push_size _ rfl, rfl, rfl⟩, fun b hb => ?_, q⟩
    have e : b = s1.heap.objs.size := by simpa using hb
    subst e
    exact I1.fpOk (Nat.le_refl _) (I1.hok.fresh (Nat.le_refl _))
  · subst e
    cases r1
    obtain ⟨its, rv, p, hz⟩ := I1.tuple hq
    refine wpAny_pyIter_tuple (show s1.heap.IsTuple a its.toArray from p) ?_
    refine ⟨s1.heap.objs.size, [s1.heap.objs.size], _, _, H1, rfl, I1.kept (t' := s1.toks) fun b o e => Heap.get?_push_of_some _ e, turn_tuple a _, ⟨_, Heap.get?_push_size _ rfl, rfl, rfl⟩, fun b hb => ?_, q⟩
    have e : b = s1.heap.objs.size := by simpa using hb
    subst e
    exact I1.fpOk (Nat.le_refl _) (I1.hok.fresh (Nat.le_refl _))
  · subst ex
    obtain ⟨t, rfl⟩ := r1
    cases ha : x.cps.all (· < 128)
    · exact wpAny_pyIter_wide ha (pi_one (tk := s1.toks) I1 _ (turn_str _ x t "str_iterator" (.inr rfl)) ⟨_, Heap.get?_push_size _ rfl, rfl, rfl⟩ q)
    · exact wpAny_pyIter_ascii ha (pi_one (tk := s1.toks) I1 _ (turn_str _ x t "str_ascii_iterator" (.inl rfl)) ⟨_, Heap.get?_push_size _ rfl, rfl, rfl⟩ q)
def itemsD : List D → Res (List D)
  | [.lst _ xs] => if isFzs xs = true then .ok xs else .bad
  | [.tup xs] => if isFzs xs = true then .ok xs else .bad
  | [.str x] => .ok (x.cps.toList.map fun c => .str ⟨#[c]⟩)
  | _ => .bad
theorem seq_rel : IterRel K itemsD (fun vs H R => ∃ x, vs = [x] ∧ rSeqI K x H R) := by
  intro Sh L H vs ds items R v e k
  unfold itemsD at e
  split at e
  · split at e
    · rename_i o xs c
      cases e
      obtain ⟨x, rfl, rx⟩ := v.one
      obtain ⟨a, us, rfl, ha, ra⟩ := rx.lst
      refine ⟨_, rfl, .inl ⟨a, rfl, ⟨us, ha.sq⟩, k _ (fun i H1 x H2 => H2 = H1 ∧ ∀ ys, SqL K H1 a ys → ys[i]? = some x) ⟨fun i H1 hi ⟨S1, h1⟩ => ?_, fun H1 ⟨S1, h1⟩ => ?_, fun i H1 x H2 hi g y => y⟩ fun i H1 S1 x H2 hi h1 y => ?_⟩⟩
      · obtain ⟨x, q, r1⟩ := h1.one
        cases q
        obtain ⟨a', us', e', ha', ra'⟩ := r1.lst
        cases e'
        obtain ⟨z, hz⟩ : ∃ z, us'[i]? = some z := ⟨us'[i]'(by rw [ra'.length]; exact hi), by simp [ra'.length, hi]⟩
        exact ⟨us', z, ha'.sq, hz⟩
      · obtain ⟨x, q, r1⟩ := h1.one
        cases q
        obtain ⟨a', us', e', ha', ra'⟩ := r1.lst
        cases e'
        exact ⟨us', ha'.sq, by rw [ra'.length]; exact Nat.le_refl _⟩
      · obtain ⟨rfl, y⟩ := y
        obtain ⟨x', q, r1⟩ := h1.one
        cases q
        obtain ⟨a', us', e', ha', ra'⟩ := r1.lst
        cases e'
        obtain ⟨d, hd⟩ : ∃ d, items[i]? = some d := ⟨items[i], by simp [hi]⟩
        obtain ⟨v', hv', rv'⟩ := ra'.get hd
        have := y us' ha'.sq
        rw [hv'] at this
        cases this
        refine ⟨d, emp, hd, .refl, fun M => rv'.ofFz ?_⟩
        rw [isFzs_eq, List.all_eq_true] at c
        exact c d (List.mem_of_getElem? hd)
    · cases e
  · split at e
    · rename_i xs c
      cases e
      obtain ⟨x, rfl, rx⟩ := v.one
      obtain ⟨a, us, rfl, ha, ra⟩ := rx.tupI
      refine ⟨_, rfl, .inr (.inl ⟨a, rfl, ⟨us, ha⟩, k _ (fun i H1 x H2 => H2 = H1 ∧ ∀ ys, SqT K H1 a ys → ys[i]? = some x) ⟨fun i H1 hi ⟨S1, h1⟩ => ?_, fun H1 ⟨S1, h1⟩ => ?_, fun i H1 x H2 hi g y => y⟩ fun i H1 S1 x H2 hi h1 y => ?_⟩)⟩
      · obtain ⟨x, q, r1⟩ := h1.one
        cases q
        obtain ⟨a', us', e', ha', ra'⟩ := r1.tupI
        cases e'
        obtain ⟨z, hz⟩ : ∃ z, us'[i]? = some z := ⟨us'[i]'(by rw [ra'.length]; exact hi), by simp [ra'.length, hi]⟩
        exact ⟨us', z, ha', hz⟩
      · obtain ⟨x, q, r1⟩ := h1.one
        cases q
        obtain ⟨a', us', e', ha', ra'⟩ := r1.tupI
        cases e'
        exact ⟨us', ha', by rw [ra'.length]; exact Nat.le_refl _⟩
      · obtain ⟨rfl, y⟩ := y
        obtain ⟨x', q, r1⟩ := h1.one
        cases q
        obtain ⟨a', us', e', ha', ra'⟩ := r1.tupI
        cases e'
        obtain ⟨d, hd⟩ : ∃ d, items[i]? = some d := ⟨items[i], by simp [hi]⟩
        obtain ⟨v', hv', rv'⟩ := ra'.get hd
        have := y us' ha'
        rw [hv'] at this
        cases this
        exact ⟨d, emp, hd, .refl, fun M => rv'.mono .nil⟩
    · cases e
  · rename_i x
    cases e
    obtain ⟨x', rfl, rx⟩ := v.one
    cases rx
    have hl : (List.map (fun c => D.str ⟨#[c]⟩) x.cps.toList).length = x.cps.size := by simp
    refine ⟨_, rfl, .inr (.inr ⟨x, rfl, k _ (fun i H1 v H2 => H2 = H1 ∧ ∃ c, x.cps[i]? = some c ∧ v = .str ⟨#[c]⟩) ⟨fun i H1 hi _ => ?_, fun H1 _ => ?_, fun i H1 x H2 hi g y => y⟩ fun i H1 S1 z H2 hi h1 y => ?_⟩)⟩
    · show i < x.cps.size
      rw [← hl]; exact hi
    · show x.cps.size ≤ _
      rw [hl]; exact Nat.le_refl _
    · obtain ⟨rfl, c, hc, rfl⟩ := y
      refine ⟨.str ⟨#[c]⟩, emp, ?_, .refl, fun M => .str _⟩
      rw [List.getElem?_map, Array.getElem?_toList, hc]
      rfl
  · cases e
theorem it_seq {tg e : Expr} {o : OK} (h : EK X P e o) : ITO X P tg e [o] itemsD := by
  obtain ⟨t, a1, a2, a2s, a3⟩ := h
  refine ⟨fun σ H Q => t σ H fun x H1 => Q [x] H1, fun vs H R => ∃ x, vs = [x] ∧ rSeqI X.K x H R, ?_, seq_rel, fun vw k σ H Q h => ?_, fun vw k D' σ H h => ?_, fun h k => a3 (fun x H q => h _ _ q) k⟩
  · refine ⟨fun pins s σ H R I h => (pi_seq a1).run pins s σ H R I (a3 (fun x H1 ⟨y, e, q⟩ => ?_) h)⟩
    cases e
    exact q
  · exact a3 (fun x H1 ⟨d, h1⟩ => ⟨[d], rfl, h1⟩) (a2 vw _ σ H Q h)
  · exact a3 (fun x H1 ⟨d, h1⟩ => ⟨[d], rfl, h1⟩) (a2s vw _ D' σ H h)
def rangeL (lo : Int) (n : Nat) : List D := (List.range n).map fun k : Nat => .int (lo + (k : Int))
def range1D : List D → Res (List D)
  | [.int j] => if j < 2 ^ 62 ∧ -(2 ^ 62) ≤ j then .ok (rangeL 0 j.toNat) else .bad
  | _ => .bad
def range2D : List D → Res (List D)
  | [.int i, .int j] => if -(2 ^ 62) ≤ i ∧ i < 2 ^ 62 ∧ -(2 ^ 62) ≤ j ∧ j < 2 ^ 62 then .ok (rangeL i (j - i).toNat) else .bad
  | _ => .bad
theorem rangeL_len {lo : Int} {n : Nat} : (rangeL lo n).length = n := by simp [rangeL]
theorem range_go {L : AS} {H : Hp} {vs : List V} {ds : List D} {lo : Int} {n : Nat} {R : It → Hp → Prop} (k : ∀ J Y, Walk J (rangeL lo n).length (fun H' => ∃ Sh', Views K Sh' H' L vs ds) Y → (∀ i H1 Sh1 x H2, i < (rangeL lo n).length → Views K Sh1 H1 L vs ds → Y i H1 x H2 → ∃ d Gx, (rangeL lo n)[i]? = some d ∧ Nw H1 H2 Gx ∧ ∀ M, Rep K Sh1 H2 x d M) → R J H) : R (Itr lo n) H := by
  refine k _ (YFn fun i => .int (lo + i)) ⟨fun i H1 hi _ => ?_, fun H1 _ => ?_, fun i H1 x H2 hi g y => y⟩ fun i H1 S1 z H2 hi h1 y => ?_
  · show i < n
    rw [rangeL_len] at hi; exact hi
  · show n ≤ _
    rw [rangeL_len]; exact Nat.le_refl _
  · obtain ⟨rfl, rfl⟩ := y
    rw [rangeL_len] at hi
    refine ⟨.int (lo + i), emp, ?_, .refl, fun M => .int _⟩
    unfold rangeL
    rw [List.getElem?_map, List.getElem?_range hi]
    rfl
theorem range1_rel : IterRel K range1D (fun vs H R => ∃ j : Int, vs = [.int j] ∧ -(2 ^ 62) ≤ j ∧ j < 2 ^ 62 ∧ R (Itr 0 j.toNat) H) := by
  intro Sh L H vs ds items R v e k
  unfold range1D at e
  split at e
  · split at e
    · rename_i j c
      cases e
      obtain ⟨x, rfl, rx⟩ := v.one
      cases rx
      exact ⟨j, rfl, c.2, c.1, range_go k⟩
    · cases e
  · cases e
theorem range2_rel : IterRel K range2D (fun vs H R => ∃ i j : Int, vs = [.int i, .int j] ∧ (-(2 ^ 62) ≤ i ∧ i < 2 ^ 62 ∧ -(2 ^ 62) ≤ j ∧ j < 2 ^ 62) ∧ R (Itr i (j - i).toNat) H) := by
  intro Sh L H vs ds items R v e k
  unfold range2D at e
  split at e
  · split at e
    · rename_i i j c
      cases e
      obtain ⟨x, y, rfl, rx, ry⟩ := v.two
      cases rx
      cases ry
      exact ⟨i, j, rfl, c, range_go k⟩
    · cases e
  · cases e
theorem it_range1 {tg a : Expr} {p pos : Pos} {o : OK} (h : EK X P a o) (hm : X.mg "range" = none) (hg : Gl X "range" := by rfl) (hs : starEach [a] X.env = [(false, eval a X.env)] := by rfl) : ITO X P tg (.Call (.Name "range" p) [a] [] pos) [o] range1D := by
  obtain ⟨t, k⟩ := eks_cons h eks_nil hs
  exact ⟨t, _, pi_range1 hg hm k.pa hs, range1_rel, k.e, k.s, k.mono⟩
theorem it_range2 {tg a b : Expr} {p pos : Pos} {o o' : OK} (h : EK X P a o) (h' : EK X P b o') (hm : X.mg "range" = none) (hg : Gl X "range" := by rfl) (hs : starEach [a, b] X.env = [(false, eval a X.env), (false, eval b X.env)] := by rfl) (hs2 : starEach [b] X.env = [(false, eval b X.env)] := by rfl) :
    ITO X P tg (.Call (.Name "range" p) [a, b] [] pos) [o, o'] range2D := by
  obtain ⟨t, k⟩ := eks_cons h' eks_nil hs2
  obtain ⟨t', k'⟩ := eks_cons h k (by rw [hs, hs2])
  exact ⟨t', _, pi_range2 hg hm k'.pa hs hs2, range2_rel, k'.e, k'.s, k'.mono⟩

def loopF (g : GS) (b : SS) : List D → SS
  | [] => fun ds => .ok (.nx, ds)
  | x :: xs => fun ds => (g x ds).bind fun ds1 => (b ds1).bind fun p => match p.1 with
    | .nx => loopF g b xs p.2
    | .ct => loopF g b xs p.2
    | .br => .ok (.nx, p.2)
    | .rt d => .ok (.rt d, p.2)
def sFor (os : List OK) (f : List D → Res (List D)) (g : GS) (b : SS) : SS := sOps os fun xs => fun ds => (f xs).bind fun items => loopF g b items ds
theorem tVS_nil {r : SS} {D' : Ends} {σ H} (h : tS K P r D' σ H) : tVS K P [] r D' σ H := by
  obtain ⟨Sh, F, L, ds, d, ds', w, e, k⟩ := h
  exact ⟨Sh, F, L, ds, d, ds', w, (fun _ z => nomatch z), e, k⟩
theorem Views.stp {Sh F L Sh' F' : AS} {H H' : Hp} (s : Stp Sh F H Sh' F' H') (w : Wf Sh F H) (dj : Dj L F) : ∀ {vs : List V} {ds : List D}, Views K Sh H L vs ds → Views K Sh' H' L vs ds
  | _, _, .nil => .nil
  | _, _, .cons a b => .cons (a.stp s w dj) (Views.stp s w dj b)
theorem PostS.new {Sh F L : AS} {H H' : Hp} {σ : St} {ds : Ds} {G : AS} (w : Wd K Sh F L H σ ds) (n : Nw H H' G) : PostS K P Sh F H σ ds ds σ H' Sh F := by
  refine ⟨(n.stp w.wf).weak .r, ?_, .of .refl, .refl⟩
  obtain ⟨l, g, h1, h2, h3⟩ := w.sl
  exact ⟨l, g, fun i d e => let ⟨v, q, r⟩ := h1 i d e; ⟨v, q, n.rep r⟩, h2, h3⟩
theorem s_for {tg iter : Expr} {body : List Stmt} {pos : Pos} {os : List OK} {f : List D → Res (List D)} {g : GS} {b : SS} (hp : PassesOwn (model X.prog X.w) X.A X.env X.xe) (hc : X.calm = true) (hi : ITO X P tg iter os f) (hg : PG X tg (tG X.K P g)) (hb : PSs X body (tS X.K P b))
    (hs : ∀ x, foldedSetIterable iter X.env x = pure x := by intro _; rfl) : PS X (.For tg iter body [] pos) (tS X.K P (sFor os f g b)) := by
  obtain ⟨ta, r, h1, h2, h3, h4, h5⟩ := hi
  refine (ps_for hp hc h1 hg hb hs).imp fun D' σ H h => ?_
  refine h5 (fun vs H1 ⟨xs, hl, h⟩ => ?_) (h4 [] _ D' σ H (tVS_nil h))
  obtain ⟨Sh, F, L, ds, fl, ds', w, hv, e, k⟩ := h
  obtain ⟨items, e1, e2⟩ := Res.of_bind e
  have vw := views_of hl hv
  refine h2 Sh L H1 vs xs items _ vw e1 fun J Y wk hy => ?_
  refine for_it wk (fun i σ1 H2 => ∃ Sh1 F1 ds1, PostS X.K P Sh F H1 σ ds ds1 σ1 H2 Sh1 F1 ∧ loopF g b (items.drop i) ds1 = .ok (fl, ds')) ⟨Sh, F, ds, .refl w, by rw [List.drop_zero]; exact e2⟩ ?_ ?_ ?_
  · rintro i σ1 H2 hi ⟨Sh1, F1, ds1, p1, _⟩
    exact ⟨Sh1, vw.stp p1.stp w.wf w.dj⟩
  · rintro i x σ1 H2 H3 hi ⟨Sh1, F1, ds1, p1, el⟩ y
    obtain ⟨d, Gx, hd, nw, rx⟩ := hy i H2 Sh1 x H3 hi (vw.stp p1.stp w.wf w.dj) y
    have ed : items.drop i = d :: items.drop (i + 1) := by
      obtain ⟨hlt, rfl⟩ := List.getElem?_eq_some_iff.mp hd
      exact List.drop_eq_getElem_cons hlt
    rw [ed] at el
    obtain ⟨ds2, e3, e4⟩ := Res.of_bind el
    obtain ⟨⟨f1, ds3⟩, e5, e6⟩ := Res.of_bind e4
    have w1 := w.nextS p1
    have pn := PostS.new (P := P) w1 nw
    have w1' := w1.nextS pn
    have p1' := p1.trans pn
    refine ⟨Sh1, emp, F1, L, ds1, d, ds2, ⟨w1', rx _, .nil_l, w1'.wf.emp, .nil_l⟩, e3, fun σ4 H4 Sh4 F4 p4 => ?_⟩
    have p4' : PostS X.K P Sh1 F1 H3 σ1 ds1 ds2 σ4 H4 Sh4 F4 := p4.narrow
    have p5 := p1'.trans p4'
    refine ⟨Sh4, F4, L, ds2, f1, ds3, w.nextS p5, e5, ?_⟩
    cases f1 with
    | nx => exact fun σ6 H6 Sh6 F6 p6 => ⟨Sh6, F6, ds3, p5.trans p6, e6⟩
    | ct => exact fun σ6 H6 Sh6 F6 p6 => ⟨Sh6, F6, ds3, p5.trans p6, e6⟩
    | br =>
      cases e6
      exact fun σ6 H6 Sh6 F6 p6 => k _ _ _ _ (p5.trans p6)
    | rt d =>
      cases e6
      exact fun σ6 v6 H6 Sh6 G6 F6 p6 => k _ _ _ _ _ _ (p5.ret p6)
  · rintro σ1 H2 ⟨Sh1, F1, ds1, p1, el⟩
    rw [List.drop_length] at el
    cases el
    exact k _ _ _ _ p1
end
end Vd
end
section
namespace Vd
open PySem L2

def dwipe (ds : Ds) : List Nat → Ds
  | [] => ds
  | v :: vs => (dwipe ds vs).set v .no
def restore (ds : Ds) : List Nat → Ds → Ds
  | [], ds' => ds'
  | v :: vs, ds' => match ds[v]? with
    | some x => (restore ds vs ds').set v x
    | none => restore ds vs ds'
def lcF (vs : List Nat) (g : GS) (tt : BS) (elt : ES) : List D → Ds → Res (List D × Ds)
  | [], ds => .ok ([], ds)
  | x :: xs, ds => (g x (dwipe ds vs)).bind fun ds1 => (tt ds1).bind fun p => if p.1 = true then
      (elt p.2).bind fun q => (lcF vs g tt elt xs q.2).bind fun r => .ok (q.1 :: r.1, r.2)
    else lcF vs g tt elt xs p.2
def rLc (os : List OK) (f : List D → Res (List D)) (vs : List Nat) (g : GS) (tt : BS) (elt : ES) : ES := eOps os fun xs => fun ds => (f xs).bind fun items => (lcF vs g tt elt items (dwipe ds vs)).bind fun p =>
  if p.1.length ≤ sizeLine then .ok (.lst true p.1, restore ds vs (dwipe p.2 vs)) else .bad
def rest (n : Nat) (vs : List Nat) : List Nat := (List.range n).filter fun i => !vs.contains i

theorem dwipe_len (ds : Ds) : ∀ vs : List Nat, (dwipe ds vs).length = ds.length
  | [] => rfl
  | v :: vs => by unfold dwipe; rw [List.length_set, dwipe_len ds vs]
theorem dwipe_get {ds : Ds} {i : Nat} {x : Slot} : ∀ {vs : List Nat}, (dwipe ds vs)[i]? = some x → (x = .no ∧ i ∈ vs) ∨ (i ∉ vs ∧ ds[i]? = some x)
  | [], h => .inr ⟨by simp, h⟩
  | v :: vs, h => by
    unfold dwipe at h
    rcases get_set h with ⟨rfl, rfl⟩ | ⟨n, h⟩
    · exact .inl ⟨rfl, by simp⟩
    · rcases dwipe_get h with ⟨a, b⟩ | ⟨a, b⟩
      · exact .inl ⟨a, List.mem_cons_of_mem _ b⟩
      · exact .inr ⟨by simp only [List.mem_cons, not_or]; exact ⟨n, a⟩, b⟩
theorem restore_len (ds ds' : Ds) : ∀ vs : List Nat, (restore ds vs ds').length = ds'.length
  | [] => rfl
  | v :: vs => by
    unfold restore
    split
    · rw [List.length_set, restore_len ds ds' vs]
    · exact restore_len ds ds' vs
theorem restore_get {ds ds' : Ds} (hl : ds.length = ds'.length) {i : Nat} {x : Slot} : ∀ {vs : List Nat}, (restore ds vs ds')[i]? = some x → (i ∈ vs ∧ ds[i]? = some x) ∨ (i ∉ vs ∧ ds'[i]? = some x)
  | [], h => .inr ⟨by simp, h⟩
  | v :: vs, h => by
    unfold restore at h
    split at h
    · rename_i y e
      rcases get_set h with ⟨rfl, rfl⟩ | ⟨n, h⟩
      · exact .inl ⟨by simp, e⟩
      · rcases restore_get hl h with ⟨a, b⟩ | ⟨a, b⟩
        · exact .inl ⟨List.mem_cons_of_mem _ a, b⟩
        · exact .inr ⟨by simp only [List.mem_cons, not_or]; exact ⟨n, a⟩, b⟩
    · rename_i e
      have hv : ds.length ≤ v := List.getElem?_eq_none_iff.mp e
      have hi : i < ds'.length := by
        have := (List.getElem?_eq_some_iff.mp h).1
        rw [restore_len] at this
        exact this
      have n : i ≠ v := by omega
      rcases restore_get hl h with ⟨a, b⟩ | ⟨a, b⟩
      · exact .inl ⟨List.mem_cons_of_mem _ a, b⟩
      · exact .inr ⟨by simp only [List.mem_cons, not_or]; exact ⟨n, a⟩, b⟩
theorem wipe_get {σ : St} {i : Nat} : ∀ {vs : List Nat}, i ∉ vs → (wipe σ vs)[i]? = σ[i]?
  | [], _ => rfl
  | v :: vs, h => by
    simp only [List.mem_cons, not_or] at h
    unfold wipe
    rw [List.getElem?_set_ne (fun e => h.1 e.symm), wipe_get h.2]
theorem wipe_in {σ : St} {i : Nat} (hi : i < σ.length) : ∀ {vs : List Nat}, i ∈ vs → (wipe σ vs)[i]? = some none
  | v :: vs, h => by
    unfold wipe
    by_cases e : v = i
    · subst e
      exact List.getElem?_set_self (by rw [wipe_length]; exact hi)
    · rw [List.getElem?_set_ne e]
      exact wipe_in hi (by
        rcases List.mem_cons.mp h with z | z
        · exact absurd z.symm e
        · exact z)
theorem wipe_same {σ σ' : St} {vs : List Nat} (hl : σ'.length = σ.length) (h : ∀ i, i ∉ vs → i < σ.length → σ'[i]? = (wipe σ vs)[i]?) : wipe σ' vs = wipe σ vs := by
  apply List.ext_getElem?
  intro i
  by_cases hi : i < σ.length
  · by_cases m : i ∈ vs
    · rw [wipe_in (by omega) m, wipe_in hi m]
    · rw [wipe_get m, h i m hi]
  · rw [List.getElem?_eq_none (by rw [wipe_length]; omega), List.getElem?_eq_none (by rw [wipe_length]; omega)]
theorem wipe_wipe {σ : St} {vs : List Nat} : wipe (wipe σ vs) vs = wipe σ vs := wipe_same (wipe_length _ _) fun i m _ => rfl

section
variable {K : PySem.W.Frag} {X : Cx} {P : List Nat}
def bYes : BS := fun ds => .ok (true, ds)
theorem _root_.L2.PTs.imp {X : Cx} {es : List Expr} {t t' : TT} (h : PTs X es t) (i : ∀ σ H Q, t' σ H Q → t σ H Q) : PTs X es t' := ⟨fun pins s σ H Q I x => h.run pins s σ H Q I (i σ H Q x)⟩
theorem ts_nil : PTs X [] (tT X.K bYes) := pts_nil.imp fun σ H Q ⟨Sh, F, L, ds, b, ds', w, e, k⟩ => by
  cases e
  exact k _ _ _ ⟨.refl w.wf, w.sl, .refl⟩
theorem ts_one {c : Expr} {t : BS} (h : PT X c (tT X.K t)) : PTs X [c] (tT X.K t) := pts_one h
theorem Sl.wipe {Sh F : AS} {H : Hp} {σ : St} {ds : Ds} {vs : List Nat} (sl : Sl K Sh H σ ds F) : Sl K Sh H (wipe σ vs) (dwipe ds vs) F := by
  obtain ⟨l, g, h1, h2, h3⟩ := sl
  refine ⟨by rw [dwipe_len, wipe_length]; exact l, g, fun i d e => ?_, h2, h3⟩
  rcases dwipe_get e with ⟨z, _⟩ | ⟨m, z⟩
  · cases z
  · obtain ⟨v, q, r⟩ := h1 i d z
    exact ⟨v, by rw [wipe_get m]; exact q, r⟩
theorem Wd.wipe {Sh F L : AS} {H : Hp} {σ : St} {ds : Ds} {vs : List Nat} (w : Wd K Sh F L H σ ds) : Wd K Sh F L H (L2.wipe σ vs) (dwipe ds vs) := by
  refine ⟨w.wf, w.wl, w.dj, w.sl.wipe, fun i d e => ?_, w.tabs⟩
  rcases dwipe_get e with ⟨z, _⟩ | ⟨m, z⟩
  · cases z
  · obtain ⟨v, q, r⟩ := w.lk i d z
    exact ⟨v, by rw [wipe_get m]; exact q, r⟩
theorem aside {Sh F L : AS} {H : Hp} {σ : St} {ds : Ds} (vs : List Nat) (w : Wd K Sh F L H σ ds) : ∃ T F0, Sub T F ∧ Sub F0 F ∧ Dj T F0 ∧ Wd K Sh F0 L H (L2.wipe σ vs) (dwipe ds vs) ∧
    ∀ {Sh2 F2 : AS} {H2 : Hp} {ds2 : Ds}, Stp Sh F0 H Sh2 F2 H2 → Sl K Sh2 H2 (L2.wipe σ vs) ds2 F2 → Lks (dwipe ds vs) ds2 → Sl K Sh2 H2 σ (restore ds vs ds2) (un T F2) ∧ Lks ds (restore ds vs ds2) ∧ Dj T F2 := by
  obtain ⟨l, g, h1, h2, h3⟩ := id w.sl
  refine ⟨fun b => ∃ j, j ∈ vs ∧ g j b, fun b => F b ∧ ∀ j, j ∈ vs → ¬ g j b, fun b ⟨j, _, z⟩ => h2 j b z, fun b z => z.1, fun b ⟨j, m, z⟩ y => y.2 j m z, ⟨w.wf.sub fun b z => z.1, w.wl, w.dj.sub .refl fun b z => z.1, ⟨by rw [dwipe_len, wipe_length]; exact l, fun j => if j ∈ vs then emp else g j, fun j d e => ?_, fun j => ?_, fun j k n => ?_⟩, w.wipe.lk, w.tabs⟩, fun {Sh2 F2 H2 ds2} st sl2 lk2 => ?_⟩
  · rcases dwipe_get e with ⟨z, _⟩ | ⟨m, z⟩
    · cases z
    · obtain ⟨v, q, r⟩ := h1 j d z
      dsimp only
      rw [if_neg m]
      exact ⟨v, by rw [wipe_get m]; exact q, r⟩
  · dsimp only
    by_cases m : j ∈ vs
    · rw [if_pos m]; exact .nil
    · rw [if_neg m]; exact fun b z => ⟨h2 j b z, fun k mk y => h3 j k (fun e => m (e ▸ mk)) b z y⟩
  · dsimp only
    by_cases m : j ∈ vs
    · rw [if_pos m]; exact .nil_l
    · rw [if_neg m]
      by_cases m' : k ∈ vs
      · rw [if_pos m']; exact .nil_r
      · rw [if_neg m']; exact h3 j k n
  · have wT : Wf Sh (fun b => ∃ j, j ∈ vs ∧ g j b) H := w.wf.sub fun b ⟨j, _, z⟩ => h2 j b z
    have dT : Dj (fun b => ∃ j, j ∈ vs ∧ g j b) (fun b => F b ∧ ∀ j, j ∈ vs → ¬ g j b) := fun b ⟨j, m, z⟩ y => y.2 j m z
    obtain ⟨st', dj'⟩ := st.beside wT dT
    have w0 : Wf Sh (fun b => F b ∧ ∀ j, j ∈ vs → ¬ g j b) H := w.wf.sub fun b z => z.1
    obtain ⟨l2, g2, k1, k2, k3⟩ := sl2
    have hl : ds.length = ds2.length := by rw [l2, wipe_length]; exact l
    refine ⟨⟨by rw [restore_len, l2, wipe_length], fun j => if j ∈ vs then g j else g2 j, fun j d e => ?_, fun j => ?_, fun j k n => ?_⟩, fun j d e => ?_, dj'⟩
    · rcases restore_get hl e with ⟨m, z⟩ | ⟨m, z⟩
      · obtain ⟨v, q, r⟩ := h1 j d z
        dsimp only
        rw [if_pos m]
        exact ⟨v, q, r.stp st w0 fun b x y => y.2 j m x⟩
      · obtain ⟨v, q, r⟩ := k1 j d z
        dsimp only
        rw [if_neg m]
        exact ⟨v, by rw [wipe_get m] at q; exact q, r⟩
    · dsimp only
      by_cases m : j ∈ vs
      · rw [if_pos m]; exact fun b z => .inl ⟨j, m, z⟩
      · rw [if_neg m]; exact (k2 j).trans .r
    · dsimp only
      by_cases m : j ∈ vs
      · rw [if_pos m]
        by_cases m' : k ∈ vs
        · rw [if_pos m']; exact h3 j k n
        · rw [if_neg m']; exact fun b x y => dj' b ⟨j, m, x⟩ (k2 k b y)
      · rw [if_neg m]
        by_cases m' : k ∈ vs
        · rw [if_pos m']; exact fun b x y => dj' b ⟨k, m', y⟩ (k2 j b x)
        · rw [if_neg m']; exact k3 j k n
    · rcases restore_get hl e with ⟨m, z⟩ | ⟨m, z⟩
      · exact z
      · rcases dwipe_get (lk2 j d z) with ⟨y, _⟩ | ⟨_, y⟩
        · cases y
        · exact y
theorem Lks.wipe {ds ds' : Ds} {vs : List Nat} (h : Lks ds ds') : Lks ds (dwipe ds' vs) := fun i d e => by
  rcases dwipe_get e with ⟨z, _⟩ | ⟨_, z⟩
  · cases z
  · exact h i d z

theorem Kp.mut {Sh : AS} {H : Hp} {p : Addr} {xs zs : List V} (h : H p = some (.lst xs)) : Kp Sh (fun b => b = p) H (upd H p (.lst zs)) :=
  .all (fun b o e n => by rw [upd_ne n]; exact e) (fun b ys e => by rw [upd_ne (ne_of e h (by intro z; cases z))]; exact e) (fun b o u e => by rw [upd_ne (ne_of e h (by intro z; cases z))]; exact e) fun t p hp => by
    obtain ⟨ps, a1, a2, a3⟩ := t p hp
    refine ⟨ps, by rw [upd_ne (ne_of a1 h (by intro z; cases z))]; exact a1, a2, fun pos cv hc => ?_⟩
    obtain ⟨c, e1, e2⟩ := a3 pos cv hc
    exact ⟨c, e1, by rw [upd_ne (ne_of e2 h (by intro z; unfold LamX.CodeO at z; cases z))]; exact e2⟩
theorem Stp.mut {Sh F : AS} {H : Hp} {p : Addr} {xs zs : List V} (w : Wf Sh F H) (hp : F p) (h : H p = some (.lst xs)) : Stp Sh F H Sh F (upd H p (.lst zs)) := by
  refine ⟨(Kp.mut (Sh := Sh) h).wk (fun b z => by rw [z]; exact hp), .refl, fun b z => .inl z, fun b z => .inl z, ⟨w.dj, fun b z y => ?_, fun b z y => ?_⟩⟩
  · by_cases e : b = p
    · subst e; rw [upd_same] at y; cases y
    · rw [upd_ne e] at y; exact w.lf b z y
  · by_cases e : b = p
    · subst e; rw [upd_same] at y; cases y
    · rw [upd_ne e] at y; exact w.ls b z y
theorem tLc_go {os : List OK} {f : List D → Res (List D)} {vs : List Nat} {g : GS} {tt : BS} {elt : ES} {ta : TA} {r : List V → Hp → (It → Hp → Prop) → Prop} {n : Nat} 
    (h2 : IterRel K f r) (h3 : ∀ vw k σ H Q, tV K vw (eOps os k) σ H Q → ta σ H fun vs H1 => ∃ ds, vs.length = ds.length ∧ tV K (vs.zip ds ++ vw) (k ds) σ H1 Q) (h5 : ∀ {σ H} {Q Q' : List V → Hp → Prop}, (∀ x H, Q x H → Q' x H) → ta σ H Q → ta σ H Q') :
    ∀ σ H Q, σ.length = n → tE K (rLc os f vs g tt elt) σ H Q → tLc (fun σ H R => ta σ H fun vs H1 => r vs H1 R) (tG K (rest n vs) g) (tT K tt) (tE K elt) vs σ H Q := by
  intro σ H Q hn h
  refine h5 (fun us H1 ⟨xs, hl, h⟩ => ?_) (h3 [] _ σ H Q (tV_nil h))
  obtain ⟨Sh, F, L, ds, d, ds', w, hv, e, q⟩ := h
  obtain ⟨items, e1, e⟩ := Res.of_bind e
  obtain ⟨⟨yf, dsf⟩, e2, e⟩ := Res.of_bind e
  dsimp only at e
  split at e
  · rename_i hsz
    cases e
    have vw := views_of hl hv
    refine h2 Sh L H1 us xs items _ vw e1 fun J Y wk hy D hD => ?_
    obtain ⟨T, F0, sT, sF0, dTF, w0, back⟩ := aside vs w
    have s0 : Stp Sh F H1 Sh (un T F0) H1 := (Stp.refl w.wf).weak (.un sT sF0)
    -- the state at turn i
    let Pv : Nat → Hp → Prop := fun i H2 => ∃ Sh1 F1 ds1 yacc rest acc GA, Stp Sh F0 H1 Sh1 (un (un (fun b => b = D) GA) F1) H2 ∧ Dj (un (fun b => b = D) GA) F1 ∧ ¬ GA D ∧ H2 D = some (.lst acc) ∧ Reps K Sh1 H2 acc yacc GA ∧ Sl K Sh1 H2 (wipe σ vs) (dwipe ds1 vs) F1 ∧
      Lks (dwipe ds vs) (dwipe ds1 vs) ∧ lcF vs g tt elt (items.drop i) ds1 = .ok (rest, dsf) ∧ yacc ++ rest = yf
    refine lc_it wk Pv ?_ ?_ ?_ ?_
    · have n0 := Nw.upd (o := HO.lst []) hD
      have st := n0.stp w0.wf
      refine ⟨Sh, F0, dwipe ds vs, [], yf, [], emp, st.weak (.un (.un .l .nil) .r), fun b x y => ?_, fun z => z, upd_same, .nil, ?_, .wipe .refl, by rw [List.drop_zero]; exact e2, rfl⟩
      · rcases x with x | x
        · exact w0.wf.lf b y (by rw [x]; exact hD)
        · exact x
      · have : Sl K Sh (upd H1 D (.lst [])) (wipe σ vs) (dwipe ds vs) F0 := by
          obtain ⟨l, g, k1, k2, k3⟩ := w0.sl
          exact ⟨l, g, fun i d e => let ⟨v, q, r⟩ := k1 i d e; ⟨v, q, n0.rep r⟩, k2, k3⟩
        have := this.wipe (vs := vs)
        rw [wipe_wipe] at this
        exact this
    · rintro i H2 hi ⟨Sh1, F1, ds1, yacc, rst, acc, GA, st, _⟩
      exact ⟨Sh1, vw.stp st w0.wf (w.dj.sub .refl sF0)⟩
    · rintro i x H2 H3 hi ⟨Sh1, F1, ds1, yacc, rst, acc, GA, st, dj, nD, eD, ra, sl, lk, el, eyf⟩ y
      have dL : Dj L F0 := w.dj.sub .refl sF0
      obtain ⟨dx, Gx, hd, nw, rx⟩ := hy i H2 Sh1 x H3 hi (vw.stp st w0.wf dL) y
      have ed : items.drop i = dx :: items.drop (i + 1) := by
        obtain ⟨hlt, rfl⟩ := List.getElem?_eq_some_iff.mp hd
        exact List.drop_eq_getElem_cons hlt
      rw [ed] at el
      obtain ⟨ds2, e3, el⟩ := Res.of_bind el
      obtain ⟨⟨b, ds3⟩, e4, el⟩ := Res.of_bind el
      -- the block's world at H2
      obtain ⟨wl1, djL⟩ := w0.wl.next dL st
      have wB : Wd K Sh1 F1 L H2 (wipe σ vs) (dwipe ds1 vs) := ⟨st.wf.sub .r, wl1, djL.sub .refl .r, sl, (fun j d e => by
        obtain ⟨v, q, r⟩ := w0.lk j d (lk j d e)
        exact ⟨v, q, r.stp st w0.wf dL⟩), st.kp.tab w0.tabs⟩
      have wT : Wf Sh1 (un (fun b => b = D) GA) H2 := st.wf.sub .l
      have pn := PostS.new (P := rest n vs) wB nw
      have wB' := wB.nextS pn
      refine ⟨Sh1, emp, F1, L, dwipe ds1 vs, dx, ds2, ⟨wB', rx _, .nil_l, wB'.wf.emp, .nil_l⟩, e3, fun σ4 H4 Sh4 F4 p4 => ?_⟩
      have p4 := p4.narrow
      have ag : ∀ j, j ∉ vs → j < n → σ4[j]? = (wipe σ vs)[j]? := fun j m hj => p4.ag.2 j (by
        unfold rest
        rw [List.mem_filter]
        exact ⟨List.mem_range.mpr hj, by simpa using m⟩)
      have l4 : σ4.length = n := by
        have h1 := p4.ag.1
        rw [wipe_length] at h1
        omega
      have wsame : wipe σ4 vs = wipe σ vs := wipe_same (by omega) fun j m hj => ag j m (by omega)
      have p14 := pn.trans p4
      refine ⟨wsame, Sh4, F4, L, ds2, b, ds3, wB.nextS p14, e4, fun H5 Sh5 F5 p5 => ?_⟩
      have w5 := (wB.nextS p14).nextT p5
      have st15 := p14.stp.trans p5.stp
      have lk5 : Lks (dwipe ds vs) ds3 := lk.trans fun j d e => (p14.lks j d (p5.lks j d e)).1
      have keepD : ∀ {Sh' F' H'}, Stp Sh1 F1 H2 Sh' F' H' → H' D = some (.lst acc) := fun st' => st'.kp.kept _ _ eD fun z => dj D (.inl rfl) z
      have keepA : ∀ {Sh' F' H'}, Stp Sh1 F1 H2 Sh' F' H' → Reps K Sh' H' acc yacc GA := fun st' => ra.stp st' wB.wf (dj.sub .r .refl)
      cases b with
      | false =>
        obtain ⟨stb, djb⟩ := st15.beside wT dj
        refine iteF ⟨Sh5, F5, ds3, yacc, rst, acc, GA, st.trans stb, djb, nD, keepD st15, keepA st15, ?_, .wipe lk5, el, eyf⟩
        have := p5.sl.wipe (vs := vs)
        rw [wsame] at this
        exact this
      | true =>
        dsimp only at el
        rw [if_pos rfl] at el
        obtain ⟨⟨y6, ds4⟩, e5, el⟩ := Res.of_bind el
        obtain ⟨⟨rst', dsf'⟩, e6, el⟩ := Res.of_bind el
        cases el
        refine iteT ⟨Sh5, F5, L, ds3, y6, ds4, w5, e5, fun v H6 Sh6 G F6 p6 => ?_⟩
        have st16 := st15.trans p6.stp
        obtain ⟨stb, djb⟩ := st16.beside wT dj
        have hlen : acc.length = yacc.length := ra.length
        have hyf : yacc.length + (rst'.length + 1) = yf.length := by rw [← eyf, List.length_append, List.length_cons]
        have nG : ¬ G D := fun z => djb D (.inl rfl) (.inl z)
        have dGA : Dj GA G := fun b x y => djb b (.inr x) (.inl y)
        have mu := Stp.mut (zs := acc ++ [v]) (st.trans stb).wf (p := D) (.inl (.inl rfl)) (keepD st16)
        have kD : Kp Sh6 (fun b => b = D) H6 (upd H6 D (.lst (acc ++ [v]))) := Kp.mut (keepD st16)
        have dD : Dj (fun b => b = D) Sh6 := fun b x y => (st.trans stb).wf.dj b (.inl (.inl x)) y
        refine ⟨acc, keepD st16, by omega, Sh6, F6, ds4, yacc ++ [y6], rst', acc ++ [v], un GA G, ((st.trans stb).trans mu).weak ?_, ?_, fun z => z.elim nD nG, upd_same, ?_, ?_, .wipe (lk5.trans p6.lks), e6, by rw [List.append_assoc]; exact eyf⟩
        · exact .un (.un (Sub.trans (Sub.trans .l .l) .refl) (.un (Sub.trans (Sub.trans .r .l) .refl) (Sub.trans .l .r))) (Sub.trans .r .r)
        · exact Dj.un_l (djb.sub .l .r) (Dj.un_l (djb.sub .r .r) p6.dj)
        · refine Reps.app ((keepA st16).keep kD dD .refl fun b x y => nD (y ▸ x)) (Reps.one (p6.rep.keep kD dD .refl fun b x y => nG (y ▸ x))) dGA
        · have s1 : Sl K Sh6 (upd H6 D (.lst (acc ++ [v]))) σ4 ds4 F6 := by
            obtain ⟨l, g, k1, k2, k3⟩ := p6.sl
            exact ⟨l, g, fun i d e => let ⟨v, q, r⟩ := k1 i d e; ⟨v, q, r.keep kD dD .refl fun b x y => djb D (.inl rfl) (.inr (k2 i D (y ▸ x)))⟩, k2, k3⟩
          have := s1.wipe (vs := vs)
          rw [wsame] at this
          exact this
    · rintro H2 ⟨Sh1, F1, ds1, yacc, rst, acc, GA, st, dj, nD, eD, ra, sl, lk, el, eyf⟩
      rw [List.drop_length] at el
      cases el
      rw [List.append_nil] at eyf
      subst eyf
      obtain ⟨sl', lk', dT⟩ := back (st.weak .r) sl lk
      obtain ⟨st', dT'⟩ := st.beside (w.wf.sub sT) dTF
      refine q _ _ Sh1 (un (fun b => b = D) GA) (un T F1) ⟨(s0.trans st').weak (.un (Sub.trans .l .r) (.un .l (Sub.trans .r .r))), Dj.un_r (dT'.sub .refl .l).symm dj, .lstO (G := GA) eD (.inl rfl) .r nD ra, sl', lk'⟩
  · cases e
theorem _root_.L2.PE.impI {X : Cx} {e : Expr} {t t' : TE} (h : PE X e t) (i : ∀ σ H Q, σ.length = X.N.length → t' σ H Q → t σ H Q) : PE X e t' := ⟨fun pins s σ H Q I x => h.run pins s σ H Q I (i σ H Q I.len x)⟩
theorem _root_.L2.PS.impI {X : Cx} {s : Stmt} {t t' : TS} (h : PS X s t) (i : ∀ D' σ H, σ.length = X.N.length → t' D' σ H → t D' σ H) : PS X s t' := ⟨fun pins s σ H D' I x => h.run pins s σ H D' I (i D' σ H I.len x)⟩
theorem e_lc {elt tg iter : Expr} {ifs : List Expr} {scope : Scope} {own : List (Str × Nat)} {pos : Pos} {os : List OK} {f : List D → Res (List D)} {g : GS} {tt : BS} {re : ES} {n : Nat} {vs : List Nat} (hn : X.N.length = n) (hv : own.map (·.2) = vs) (hc : X.calm = true) (hN : X.N.Nodup) (hi : ITO X P tg iter os f) (ok : BlkOk X.N X.env.scope scope own)
    (hg : ∀ (s : Shared) (H : Hp) (C : Addr) (cl : List (Str × Addr)) (fp : List Addr), PG (X.blk s H scope (compEnvC scope cl C X.env) fp) tg (tG X.K (rest n vs) g)) (ht : ∀ (s : Shared) (H : Hp) (C : Addr) (cl : List (Str × Addr)) (fp : List Addr), PTs (X.blk s H scope (compEnvC scope cl C X.env) fp) ifs (tT X.K tt))
    (he : ∀ (s : Shared) (H : Hp) (C : Addr) (cl : List (Str × Addr)) (fp : List Addr), PE (X.blk s H scope (compEnvC scope cl C X.env) fp) elt (tE X.K re)) (hs : ∀ x, foldedSetIterable iter X.env x = pure x := by intro _; rfl) :
    PE X (.ListComp elt [⟨tg, iter, ifs, 0⟩] scope pos) (tE X.K (rLc os f vs g tt re)) := by
  obtain ⟨ta, r, h1, h2, h3, h4, h5⟩ := hi
  subst hn hv
  exact (pe_lc hc hN h1 ok hg ht he hs).impI fun σ H Q hl h => tLc_go h2 h3 h5 σ H Q hl h
theorem s_setLc {i : Nat} {y : Str} {py : Pos} {elt tg iter : Expr} {ifs : List Expr} {scope : Scope} {own : List (Str × Nat)} {pos spos : Pos} {os : List OK} {f : List D → Res (List D)} {g : GS} {tt : BS} {re : ES} {n : Nat} {vs : List Nat} (hn : X.N.length = n) (hv : own.map (·.2) = vs) (hP : i ∉ P) (hc : X.calm = true) (hN : X.N.Nodup) (hy : X.N[i]? = some y) (hyl : X.env.scope.names.lookup y = some .local)
    (hsw : swapsWith (.ListComp elt [⟨tg, iter, ifs, 0⟩] scope pos) (some (.Name y py)) spos.line X.env = pure true) (hi : ITO X P tg iter os f) (ok : BlkOk X.N X.env.scope scope own)
    (hg : ∀ (s : Shared) (H : Hp) (C : Addr) (cl : List (Str × Addr)) (fp : List Addr), PG (X.blk s H scope (compEnvC scope cl C X.env) fp) tg (tG X.K (rest n vs) g)) (ht : ∀ (s : Shared) (H : Hp) (C : Addr) (cl : List (Str × Addr)) (fp : List Addr), PTs (X.blk s H scope (compEnvC scope cl C X.env) fp) ifs (tT X.K tt))
    (he : ∀ (s : Shared) (H : Hp) (C : Addr) (cl : List (Str × Addr)) (fp : List Addr), PE (X.blk s H scope (compEnvC scope cl C X.env) fp) elt (tE X.K re)) (hs : ∀ x, foldedSetIterable iter X.env x = pure x := by intro _; rfl) :
    PS X (.Assign [.Name y py] (.ListComp elt [⟨tg, iter, ifs, 0⟩] scope pos) spos) (tS X.K P (sSet (gSet i) (rLc os f vs g tt re))) := by
  obtain ⟨ta, r, h1, h2, h3, h4, h5⟩ := hi
  subst hn hv
  refine (ps_setLc hc hN hy hyl hsw h1 ok hg ht he hs).impI fun D' σ H hl h => ?_
  refine tLc_go h2 h3 h5 σ H _ hl ?_
  obtain ⟨Sh, F, L, ds, fl, ds', w, e, k⟩ := h
  obtain ⟨⟨d, ds1⟩, e1, e⟩ := Res.of_bind e
  obtain ⟨ds2, e2, e⟩ := Res.of_bind e
  cases e
  cases e2
  refine ⟨Sh, F, L, ds, d, ds1, w, e1, fun v H1 Sh1 G F1 p => ?_⟩
  exact k _ _ _ _ ⟨p.stp, p.sl.put p.rep p.dj, (LkS.of p.lks).trans .put, .set hP⟩

def sPar (i j : Nat) (rs : List ES) : SS := fun ds => (rSeq rs ds).bind fun p => match p.1 with
  | [a, b] => .ok (.nx, (p.2.set i (.own a)).set j (.own b))
  | _ => .bad
theorem s_par {i j : Nat} {x y : Str} {a b : Expr} {rs : List ES} {px py pt pos : Pos} {kt k2 pt2} (hc : X.calm = true) (hN : X.N.Nodup) (h : PA X [a, b] (tAo X.K rs)) (hw : swappedStores [.Tuple [.Name x px, .Name y py] kt pt] (.Tuple [a, b] k2 pt2) X.env = pure (some [x, y]))
    (hi : X.N[i]? = some x := by rfl) (hj : X.N[j]? = some y := by rfl) (hij : i ≠ j := by decide) (hP : i ∉ P := by decide) (hP2 : j ∉ P := by decide)
    (hx : X.env.scope.names.lookup x = some .local := by rfl) (hy : X.env.scope.names.lookup y = some .local := by rfl)
    (hs : swapsWithSole [.Tuple [.Name x px, .Name y py] kt pt] (.Tuple [a, b] k2 pt2) pos.line X.env = pure false := by rfl) :
    PS X (.Assign [.Tuple [.Name x px, .Name y py] kt pt] (.Tuple [a, b] k2 pt2) pos) (tS X.K P (sPar i j rs)) := by
  refine (ps_par hc hN hi hj hij hx hy h hw hs).imp fun D' σ H ⟨Sh, F, L, ds, fl, ds', w, e, k⟩ => ?_
  obtain ⟨⟨xs, ds1⟩, e1, e⟩ := Res.of_bind e
  refine ⟨Sh, F, L, ds, xs, ds1, w, e1, fun vs H1 Sh1 G F1 p => ?_⟩
  match xs, e with
  | [d1, d2], e =>
    cases e
    cases p.rep with
    | cons r1 r2 s1 s2 dj =>
      cases r2 with
      | cons r3 r4 s3 s4 dj2 =>
        cases r4
        refine ⟨_, _, rfl, k _ _ _ _ ⟨p.stp.weak ?_, (p.sl.put r1 (p.dj.sub s1 .refl)).put r3 (Dj.un_r (dj.symm.sub s3 .refl) (p.dj.sub (s3.trans s2) .refl)), (LkS.of p.lks).trans (LkS.put.trans LkS.put), (Ag.set hP).trans (Ag.set hP2)⟩⟩
        exact .un (Sub.trans (s3.trans s2) .l) (.un (s1.trans .l) .r)
end
end Vd
end
section
namespace Vd
open PySem L2

abbrev CE := Nat → List D → Res (D × List D)
def slotsIn : List Bool → List D → Ds
  | true :: ms, d :: ds => .own d :: slotsIn ms ds
  | false :: ms, d :: ds => .lk d :: slotsIn ms ds
  | _, _ => []
def slotsOut : List Bool → List D → Ds
  | true :: ms, d :: ds => .own d :: slotsOut ms ds
  | true :: ms, [] => .no :: slotsOut ms []
  | false :: ms, ds => .no :: slotsOut ms ds
  | [], _ => []
def spF (K : PySem.W.Frag) (ms : List Bool) (sem : List D → Res (D × List D)) : Sp := fun vs H Q _ => ∃ Sh F L args z os, vs.length = ms.length ∧ Wd K Sh F L H (vs.map some) (slotsIn ms args) ∧ sem args = .ok (z, os) ∧
  ∀ v H' Sh' G F', Stp Sh F H Sh' (un G F') H' → Dj G F' → Rep K Sh' H' v z G → Sl K Sh' H' (vs.map some) (slotsOut ms os) F' → Q v H'
structure FT (P : Program) (w : World) (K : PySem.W.Frag) (mg : Str → Option Value) (base : Heap) (x : Str) (ms : List Bool) (sem : List D → Res (D × List D)) (k : Nat) : Prop where
  ex : ∃ (f : Addr) (fd : FuncData) (ps : List Str), FnOk P w K mg base CX0 k f fd ps (spF K ms sem) ∧ mg x = some (.ref f) ∧ PySem.W.keepIn K (.ref f) = true ∧ Binds K fd ps []
abbrev Callee (X : Cx) (x : Str) (ms : List Bool) (sem : List D → Res (D × List D)) (k : Nat) : Prop := FT X.prog X.w X.K X.mg X.base x ms sem k
inductive CA where
  | vw (o : Opd) | mu (i : Nat)
def CA.m : CA → Bool
  | .vw _ => false
  | .mu _ => true
def rArgs : List CA → (List D → ES) → ES
  | [], k => k []
  | .vw o :: as, k => o fun x => rArgs as fun xs => k (x :: xs)
  | .mu i :: as, k => fun ds => match ds[i]? with
    | some (.own _) => rArgs as k ds
    | _ => .bad
def asm : List CA → List D → Ds → Res (List D × Ds)
  | [], [], ds => .ok ([], ds)
  | .vw _ :: as, x :: xs, ds => (asm as xs ds).bind fun p => .ok (x :: p.1, p.2)
  | .mu i :: as, xs, ds => match ds[i]? with
    | some (.own d) => (asm as xs (ds.set i .no)).bind fun p => .ok (d :: p.1, p.2)
    | _ => .bad
  | _, _, _ => .bad
def putm : List CA → List D → Ds → Ds
  | [], _, ds => ds
  | .vw _ :: as, os, ds => putm as os ds
  | .mu i :: as, d :: os, ds => putm as os (ds.set i (.own d))
  | .mu _ :: as, [], ds => putm as [] ds
def rCall (C : CE) (f : Nat) (as : List CA) : ES := rArgs as fun xs => fun ds => (asm as xs ds).bind fun p => (C f p.1).bind fun q => .ok (q.1, putm as q.2 p.2)
def AOp (σ : St) (vw : List (V × D)) : List CA → List V → List D → Prop
  | [], [], [] => True
  | .vw _ :: as, v :: vs, x :: xs => (v, x) ∈ vw ∧ AOp σ vw as vs xs
  | .mu i :: as, v :: vs, xs => σ[i]? = some (some v) ∧ AOp σ vw as vs xs
  | _, _, _ => False
section
variable {K : PySem.W.Frag} {X : Cx} {P : List Nat}
theorem Sl.cons {Sh F G : AS} {H : Hp} {σ : St} {ds : Ds} {v : V} {d : D} (sl : Sl K Sh H σ ds F) (r : Rep K Sh H v d G) (dj : Dj G F) : Sl K Sh H (some v :: σ) (.own d :: ds) (un G F) := by
  obtain ⟨l, g, h1, h2, h3⟩ := sl
  refine ⟨by simp [l], fun j => match j with | 0 => G | k + 1 => g k, fun j d' e => ?_, fun j => ?_, fun j k n => ?_⟩
  · cases j with
    | zero =>
      have e' : Slot.own d = Slot.own d' := by simpa using e
      cases e'
      exact ⟨v, rfl, r⟩
    | succ k => exact h1 k d' (by simpa using e)
  · cases j with
    | zero => exact .l
    | succ k => exact (h2 k).trans .r
  · cases j with
    | zero => cases k with
      | zero => exact absurd rfl n
      | succ k => exact dj.sub .refl (h2 k)
    | succ j => cases k with
      | zero => exact (dj.sub .refl (h2 j)).symm
      | succ k => exact h3 j k (fun e => n (by rw [e]))
theorem Sl.consN {Sh F : AS} {H : Hp} {σ : St} {ds : Ds} {v : Option V} {x : Slot} (sl : Sl K Sh H σ ds F) (hx : ∀ d, x ≠ .own d) : Sl K Sh H (v :: σ) (x :: ds) F := by
  obtain ⟨l, g, h1, h2, h3⟩ := sl
  refine ⟨by simp [l], fun j => match j with | 0 => emp | k + 1 => g k, fun j d' e => ?_, fun j => ?_, fun j k n => ?_⟩
  · cases j with
    | zero => exact absurd (by simpa using e) (hx d')
    | succ k => exact h1 k d' (by simpa using e)
  · cases j with
    | zero => exact .nil
    | succ k => exact h2 k
  · cases j with
    | zero => exact .nil_l
    | succ j => cases k with
      | zero => exact .nil_r
      | succ k => exact h3 j k (fun e => n (by rw [e]))
theorem Sl.uncons {Sh F : AS} {H : Hp} {σ : St} {ds : Ds} {v : Option V} {x : Slot} (sl : Sl K Sh H (v :: σ) (x :: ds) F) : ∃ G F', Sub G F ∧ Sub F' F ∧ Dj G F' ∧ Sl K Sh H σ ds F' ∧ ∀ d, x = .own d → ∃ u, v = some u ∧ Rep K Sh H u d G := by
  obtain ⟨l, g, h1, h2, h3⟩ := sl
  refine ⟨g 0, fun b => ∃ k, g (k + 1) b, h2 0, fun b ⟨k, z⟩ => h2 _ b z, fun b x ⟨k, z⟩ => h3 0 (k + 1) (by omega) b x z, ⟨by simpa using l, fun k => g (k + 1), fun j d e => ?_, fun j b z => ⟨j, z⟩, fun j k n => h3 _ _ (by omega)⟩, fun d e => ?_⟩
  · exact h1 (j + 1) d (by simpa using e)
  · subst e
    obtain ⟨u, e1, r⟩ := h1 0 d rfl
    exact ⟨u, by simpa using e1, r⟩
theorem asm_ok {Sh L : AS} {H : Hp} {σ : St} {vw : List (V × D)} (hv : ∀ p ∈ vw, Rep K Sh H p.1 p.2 L) : ∀ {as : List CA} {vs : List V} {xs args : List D} {ds ds1 : Ds} {F : AS}, AOp σ vw as vs xs → asm as xs ds = .ok (args, ds1) → Sl K Sh H σ ds F →
    ∃ Fc Fr, Sub Fc F ∧ Sub Fr F ∧ Dj Fc Fr ∧ Sl K Sh H (vs.map some) (slotsIn (as.map CA.m) args) Fc ∧ Lk K Sh H (vs.map some) (slotsIn (as.map CA.m) args) L ∧ Sl K Sh H σ ds1 Fr ∧ Lks ds ds1 ∧ vs.length = as.length := by
  intro as
  induction as with
  | nil =>
    intro vs xs args ds ds1 F h e sl
    cases vs <;> cases xs <;> simp only [AOp] at h
    cases e
    exact ⟨emp, F, .nil, .refl, .nil_l, ⟨rfl, fun _ => emp, fun i d e => by simp [slotsIn] at e, fun _ => .nil, fun _ _ _ => .nil_l⟩, fun i d e => by simp [slotsIn] at e, sl, .refl, rfl⟩
  | cons a as ih =>
    intro vs xs args ds ds1 F h e sl
    cases a with
    | vw o =>
      cases vs <;> cases xs <;> simp only [AOp] at h
      obtain ⟨hm, h⟩ := h
      obtain ⟨⟨args', ds'⟩, e1, e2⟩ := Res.of_bind e
      cases e2
      obtain ⟨Fc, Fr, s1, s2, dj, slc, lkc, slr, lk, len⟩ := ih h e1 sl
      refine ⟨Fc, Fr, s1, s2, dj, slc.consN fun d z => (nomatch z), fun i d e => ?_, slr, lk, by simp [len]⟩
      cases i with
      | zero =>
        simp only [slotsIn, CA.m, List.map_cons, List.getElem?_cons_zero, Option.some.injEq, Slot.lk.injEq] at e
        subst e
        exact ⟨_, rfl, hv _ hm⟩
      | succ i => exact lkc i d (by simpa [slotsIn, CA.m] using e)
    | mu i =>
      cases vs with
      | nil => cases xs <;> simp [AOp] at h
      | cons v vs =>
        have h : σ[i]? = some (some v) ∧ AOp σ vw as vs xs := by cases xs <;> exact h
        obtain ⟨hi, h⟩ := h
        have e : (match ds[i]? with
          | some (.own d) => (asm as xs (ds.set i .no)).bind fun p => .ok (d :: p.1, p.2)
          | _ => .bad) = Res.ok (args, ds1) := by cases xs <;> exact e
        split at e
        · rename_i d q
          obtain ⟨⟨args', ds'⟩, e1, e2⟩ := Res.of_bind e
          cases e2
          obtain ⟨u, G, e', s, rp, slo⟩ := sl.out q
          rw [hi] at e'
          cases e'
          obtain ⟨Fc, Fr, s1, s2, dj, slc, lkc, slr, lk, len⟩ := ih h e1 (slo .no fun _ z => (nomatch z))
          refine ⟨un G Fc, Fr, .un s fun b z => (s1 b z).1, fun b z => (s2 b z).1, Dj.un_l (fun b x y => (s2 b y).2 x) dj, slc.cons rp fun b x y => (s1 b y).2 x, fun i d e => ?_, slr, Lks.set_no.trans lk, by simp [len]⟩
          cases i with
          | zero => simp [slotsIn, CA.m] at e
          | succ i => exact lkc i d (by simpa [slotsIn, CA.m] using e)
        · cases e
theorem putm_ok {Sh : AS} {H : Hp} {σ : St} {vw : List (V × D)} : ∀ {as : List CA} {vs : List V} {xs os : List D} {ds : Ds} {Fc Fr : AS}, AOp σ vw as vs xs → Sl K Sh H (vs.map some) (slotsOut (as.map CA.m) os) Fc → Sl K Sh H σ ds Fr → Dj Fc Fr → ∃ Fo, Sub Fo (un Fc Fr) ∧ Sl K Sh H σ (putm as os ds) Fo := by
  intro as
  induction as with
  | nil => exact fun _ _ sl _ => ⟨_, .r, sl⟩
  | cons a as ih =>
    intro vs xs os ds Fc Fr h slc slr dj
    cases a with
    | vw o =>
      cases vs <;> cases xs <;> simp only [AOp] at h
      obtain ⟨G, F', s1, s2, d1, slc', _⟩ := Sl.uncons (ds := slotsOut (as.map CA.m) os) (x := .no) slc
      obtain ⟨Fo, so, slo⟩ := ih h.2 slc' slr (dj.sub s2 .refl)
      exact ⟨Fo, so.trans (.un (s2.trans .l) .r), slo⟩
    | mu i =>
      cases vs with
      | nil => cases xs <;> simp [AOp] at h
      | cons v vs =>
        have h : σ[i]? = some (some v) ∧ AOp σ vw as vs xs := by cases xs <;> exact h
        obtain ⟨hi, h⟩ := h
        cases os with
        | nil =>
          obtain ⟨G, F', s1, s2, d1, slc', _⟩ := Sl.uncons (ds := slotsOut (as.map CA.m) []) (x := .no) slc
          obtain ⟨Fo, so, slo⟩ := ih h slc' slr (dj.sub s2 .refl)
          exact ⟨Fo, so.trans (.un (s2.trans .l) .r), slo⟩
        | cons d os =>
          obtain ⟨G, F', s1, s2, d1, slc', hr⟩ := Sl.uncons (ds := slotsOut (as.map CA.m) os) (x := .own d) slc
          obtain ⟨u, e, r⟩ := hr d rfl
          cases e
          have sl2 := slr.into hi r (dj.sub s1 .refl)
          obtain ⟨Fo, so, slo⟩ := ih h slc' sl2 (Dj.un_r d1.symm (dj.sub s2 .refl))
          exact ⟨Fo, so.trans (.un (s2.trans .l) (.un (s1.trans .l) .r)), slo⟩
theorem putm_lks : ∀ {as : List CA} {os : List D} {ds : Ds}, Lks ds (putm as os ds) := by
  intro as
  induction as with
  | nil => exact fun {os ds} => .refl
  | cons a as ih =>
    intro os ds
    cases a with
    | vw o => exact ih
    | mu i => cases os with
      | nil => exact ih
      | cons d os => exact Lks.set.trans ih
structure ECs (X : Cx) (es : List Expr) (as : List CA) : Prop where
  ex : ∃ t : TA, PA X es t ∧ ∀ vw k σ H Q, tV X.K vw (rArgs as k) σ H Q → t σ H fun vs H1 => ∃ xs vw', AOp σ vw' as vs xs ∧ (∀ p ∈ vw, p ∈ vw') ∧ tV X.K vw' (k xs) σ H1 Q
theorem AOp.more {σ : St} {vw vw' : List (V × D)} (s : ∀ p ∈ vw, p ∈ vw') : ∀ {as : List CA} {vs : List V} {xs : List D}, AOp σ vw as vs xs → AOp σ vw' as vs xs := by
  intro as
  induction as with
  | nil => intro vs xs h; cases vs <;> cases xs <;> simp only [AOp] at h ⊢
  | cons a as ih =>
    intro vs xs h
    cases a with
    | vw o => cases vs <;> cases xs <;> simp only [AOp] at h ⊢; exact ⟨s _ h.1, ih h.2⟩
    | mu i => cases vs with
      | nil => cases xs <;> simp only [AOp] at h
      | cons v vs => cases xs <;> (simp only [AOp] at h ⊢; exact ⟨h.1, ih h.2⟩)
theorem ec_nil : ECs X [] [] := ⟨_, pa_nil, fun vw k σ H Q h => ⟨[], vw, trivial, fun _ z => z, h⟩⟩
theorem ec_vw {e : Expr} {es : List Expr} {o : Opd} {as : List CA} (h : EO X e o) (t : ECs X es as) (mono : True := trivial) (hs : starEach (e :: es) X.env = (false, eval e X.env) :: starEach es X.env := by rfl) : ECs X (e :: es) (.vw o :: as) := by
  obtain ⟨ta, a1, a2, a3⟩ := h
  obtain ⟨tt, t1, t2⟩ := t
  refine ⟨fun σ H Q => ta σ H fun x H1 => ∃ Q', tt σ H1 Q' ∧ ∀ xs H2, Q' xs H2 → Q (x :: xs) H2, ?_, fun vw k σ H Q h => ?_⟩
  · refine ⟨fun po pins s σ H Q I h => ?_⟩
    have hp := pa_cons a1 (t := fun σ H Q => ∃ Q', tt σ H Q' ∧ ∀ xs H2, Q' xs H2 → Q xs H2) ⟨fun po pins s σ H Q I ⟨Q', h, i⟩ => thn (t1.run po pins s σ H Q' I h) fun us s' ⟨vs, H', I', r, q⟩ => ⟨vs, H', I', r, i _ _ q⟩⟩ hs
    refine hp.run po pins s σ H Q I (a3 (fun x H1 ⟨Q', h, i⟩ => ⟨Q', h, i⟩) h)
  · refine a3 (fun x H1 ⟨d, h1⟩ => ⟨_, t2 _ _ σ H1 Q h1, fun vs H2 ⟨xs, vw', ha, hs, h2⟩ => ⟨d :: xs, vw', ⟨hs _ (by simp), ha⟩, fun p hp => hs p (List.mem_cons_of_mem _ hp), h2⟩⟩) (a2 vw _ σ H Q h)
theorem ec_mu {i : Nat} {x : Str} {p : Pos} {es : List Expr} {as : List CA} (t : ECs X es as) (hN : X.N[i]? = some x := by rfl) (hv : Vis X.env.scope x := by first | exact Or.inl rfl | exact Or.inr (Or.inl rfl) | exact Or.inr (Or.inr rfl)) (hd : (x == ("__debug__" : Str)) = false := by decide)
    (hcd : (x == ("__classdict__" : Str)) = false := by decide) (hs : starEach (.Name x p :: es) X.env = (false, eval (.Name x p) X.env) :: starEach es X.env := by rfl) : ECs X (.Name x p :: es) (.mu i :: as) := by
  obtain ⟨tt, t1, t2⟩ := t
  refine ⟨_, pa_cons (pe_var hN hv hd hcd) (t := fun σ H Q => ∃ Q', tt σ H Q' ∧ ∀ xs H2, Q' xs H2 → Q xs H2) ⟨fun po pins s σ H Q I ⟨Q', h, i⟩ => thn (t1.run po pins s σ H Q' I h) fun us s' ⟨vs, H', I', r, q⟩ => ⟨vs, H', I', r, i _ _ q⟩⟩ hs, fun vw k σ H Q h => ?_⟩
  have hx : ∃ v, σ[i]? = some (some v) ∧ tV X.K vw (rArgs as k) σ H Q := by
    obtain ⟨Sh, F, L, ds, d, ds', w, hv, e, q⟩ := h
    simp only [rArgs] at e
    split at e
    · rename_i d0 qi
      obtain ⟨l, g, h1, _⟩ := w.sl
      obtain ⟨v, e', _⟩ := h1 i d0 qi
      exact ⟨v, e', Sh, F, L, ds, d, ds', w, hv, e, q⟩
    · cases e
  obtain ⟨v, hv, h⟩ := hx
  exact ⟨v, hv, _, t2 _ _ σ H Q h, fun vs H2 ⟨xs, vw', ha, hs, h2⟩ => ⟨xs, vw', by cases xs <;> exact ⟨hv, ha⟩, hs, h2⟩⟩
theorem tE_call {C : CE} {f : Nat} {as : List CA} {ms : List Bool} {t : TA} (hm : as.map CA.m = ms) (h : ∀ vw k σ H Q, tV K vw (rArgs as k) σ H Q → t σ H fun vs H1 => ∃ xs vw', AOp σ vw' as vs xs ∧ (∀ p ∈ vw, p ∈ vw') ∧ tV K vw' (k xs) σ H1 Q)
    (mono : ∀ {σ H} {Q Q' : List V → Hp → Prop}, (∀ x H, Q x H → Q' x H) → t σ H Q → t σ H Q') : ∀ σ H Q, tE K (rCall C f as) σ H Q → tCall (spF K ms (C f)) [] E0 t σ H Q := by
  intro σ H Q hh
  refine mono (fun vs H1 ⟨xs, vw, ha, _, h1⟩ => ?_) (h [] _ σ H Q (tV_nil hh))
  obtain ⟨Sh, F, L, ds, d, ds', w, hv, e, q⟩ := h1
  obtain ⟨⟨args, ds1⟩, e1, e⟩ := Res.of_bind e
  obtain ⟨⟨z, os⟩, e2, e⟩ := Res.of_bind e
  cases e
  subst hm
  obtain ⟨Fc, Fr, s1, s2, dj, slc, lkc, slr, lk, len⟩ := asm_ok hv ha e1 w.sl
  rw [List.append_nil]
  refine ⟨Sh, Fc, L, args, z, os, by rw [List.length_map]; exact len, ⟨w.wf.sub s1, w.wl, w.dj.sub .refl s1, slc, lkc, w.tabs⟩, e2, fun v H' Sh' G F' st dj' rp slo => ?_⟩
  have s0 : Stp Sh F H1 Sh (un Fr Fc) H1 := (Stp.refl w.wf).weak (.un s2 s1)
  obtain ⟨stb, djb⟩ := st.beside (w.wf.sub s2) dj.symm
  have slr' := slr.stp st (w.wf.sub s1) dj.symm
  obtain ⟨Fo, so, slf⟩ := putm_ok ha slo slr' (djb.sub .refl .r).symm
  refine q v H' Sh' G Fo ⟨(s0.trans stb).weak (.un (Sub.trans .l .r) (so.trans (.un (Sub.trans .r .r) .l))), ?_, rp, slf, lk.trans putm_lks⟩
  exact (Dj.un_r dj' (djb.sub .refl .l).symm).sub .refl so
theorem _root_.L2.PA.mono' {es : List Expr} {t : TA} (h : PA X es t) : PA X es (fun σ H Q => ∃ Q', t σ H Q' ∧ ∀ xs H2, Q' xs H2 → Q xs H2) :=
  ⟨fun po pins s σ H Q I ⟨Q', h', i⟩ => thn (h.run po pins s σ H Q' I h') fun us s' ⟨vs, H', I', r, q⟩ => ⟨vs, H', I', r, i _ _ q⟩⟩
theorem e_call {C : CE} {f k : Nat} {x : Str} {e : Expr} {es : List Expr} {p pos : Pos} {as : List CA} {ms : List Bool} (F : Callee X x ms (C f) k) (hr : Room k X.A) (h : ECs X (e :: es) as) (hm : as.map CA.m = ms := by rfl) (hg : Gl X x := by rfl) (hdb : (x == ("__debug__" : Str)) = false := by decide)
    (he : starEach (e :: es) X.env = (false, eval e X.env) :: starEach es X.env := by rfl) (hpl : (backTo pos (starEach es X.env)).any (·.1) = false := by rfl) : PE X (.Call (.Name x p) (e :: es) [] pos) (tE X.K (rCall C f as)) := by
  obtain ⟨fa, fd, ps, G, mg, kp, b⟩ := F
  obtain ⟨t, t1, t2⟩ := h
  refine (pe_call G hr hg mg kp b .nil pass0 t1.mono' hdb he hpl).imp fun σ H Q h => ?_
  exact tE_call hm (fun vw k σ H Q h => ⟨_, t2 vw k σ H Q h, fun _ _ z => z⟩) (fun h ⟨Q', k, i⟩ => ⟨Q', k, fun xs H2 z => h _ _ (i _ _ z)⟩) σ H Q h
def outs : List Bool → Ds → Res (List D)
  | true :: ms, .own d :: ds => (outs ms ds).bind fun r => .ok (d :: r)
  | false :: ms, _ :: ds => outs ms ds
  | [], _ => .ok []
  | _, _ => .bad
def fnRun (n : Nat) (ms : List Bool) (body : SS) (args : List D) : Res (D × List D) :=
  if args.length = ms.length then (body (slotsIn ms args ++ List.replicate (n - ms.length) .no)).bind fun p => match p.1 with
    | .rt d => (outs ms p.2).bind fun os => .ok (d, os)
    | .nx => (outs ms p.2).bind fun os => .ok (.non, os)
    | _ => .bad
  else .bad
def prot (ms : List Bool) : List Nat := (List.range ms.length).filter fun i => ms.getD i false
theorem slotsIn_len : ∀ {ms : List Bool} {args : List D}, args.length = ms.length → (slotsIn ms args).length = ms.length
  | [], [], _ => rfl
  | true :: ms, d :: ds, h => by simp [slotsIn, slotsIn_len (ms := ms) (args := ds) (by simpa using h)]
  | false :: ms, d :: ds, h => by simp [slotsIn, slotsIn_len (ms := ms) (args := ds) (by simpa using h)]
  | [], _ :: _, h => by simp at h
  | _ :: _, [], h => by simp at h
theorem Sl.more {Sh F : AS} {H : Hp} {σ : St} {ds : Ds} {n : Nat} (sl : Sl K Sh H σ ds F) : Sl K Sh H (σ ++ List.replicate n none) (ds ++ List.replicate n .no) F := by
  obtain ⟨l, g, h1, h2, h3⟩ := sl
  refine ⟨by simp [l], g, fun i d e => ?_, h2, h3⟩
  by_cases hi : i < ds.length
  · rw [List.getElem?_append_left hi] at e
    obtain ⟨v, q, r⟩ := h1 i d e
    exact ⟨v, by rw [List.getElem?_append_left (by omega)]; exact q, r⟩
  · rw [List.getElem?_append_right (by omega), List.getElem?_replicate] at e
    split at e <;> cases e
theorem outs_ok {Sh : AS} {H : Hp} : ∀ {ms : List Bool} {vs : List V} {σ : St} {ds : Ds} {os : List D} {F : AS}, outs ms ds = .ok os → Sl K Sh H σ ds F → vs.length = ms.length → (∀ i : Nat, ms[i]? = some true → σ[i]? = (vs.map some)[i]?) → Sl K Sh H (vs.map some) (slotsOut ms os) F := by
  intro ms
  induction ms with
  | nil =>
    intro vs σ ds os F e sl hl hg
    cases vs with
    | nil => exact ⟨by cases os <;> rfl, fun _ => emp, fun i d e => by cases os <;> simp [slotsOut] at e, fun _ => .nil, fun _ _ _ => .nil_l⟩
    | cons v vs => simp at hl
  | cons m ms ih =>
    intro vs σ ds os F e sl hl hg
    cases vs with
    | nil => simp at hl
    | cons v vs =>
      cases ds with
      | nil => cases m <;> cases e
      | cons x ds =>
        cases σ with
        | nil => have := sl.len; simp at this
        | cons u σ =>
          have hl' : vs.length = ms.length := by simpa using hl
          have hg' : ∀ i : Nat, ms[i]? = some true → σ[i]? = (vs.map some)[i]? := fun i h => by
            have := hg (i + 1) (by simpa using h)
            simpa using this
          obtain ⟨G, F', s1, s2, dj, sl', hr⟩ := sl.uncons
          cases m with
          | false =>
            have e : outs ms ds = .ok os := by cases x <;> exact e
            exact ((ih e sl' hl' hg').mono s2).consN fun d z => (nomatch z)
          | true =>
            cases x with
            | own d =>
              obtain ⟨r, e1, e2⟩ := Res.of_bind e
              cases e2
              obtain ⟨w, ew, rw'⟩ := hr d rfl
              have := hg 0 rfl
              have ew' : u = some v := by simpa using this
              rw [ew'] at ew
              cases ew
              exact ((ih e1 sl' hl' hg').cons rw' dj).mono (.un s1 s2)
            | no => cases e
            | lk d => cases e
variable {Pr : Program} {w : World} {mg : Str → Option Value} {base : Heap}
theorem fn_ok {x qual : Str} {st : Stmt} {f : Addr} {fd : FuncData} {N ps : List Str} {k : Nat} {ms : List Bool} {body : SS} {dvs : List V} {kws : List (Str × V)} (F : FunD K x qual (defArgs st) (defBody st) (defScope st) dvs kws f fd) (S : FnScope N ps (defScope st)) (hms : ms.length = ps.length)
    (hb : ∀ (cdv : Value) (A : Around) (outer : List Env) (s : Shared) (H : Hp) (E : XK), Room k (A.deeper (PyProof.Rows.envOfC qual (defScope st) s.heap.objs.size f cdv)) →
      PSs (cxOf CX0 Pr w K mg base N qual (defScope st) f cdv A outer s H E).nox (defBody st) (tS K (prot ms) body)) : FnOk Pr w K mg base CX0 (k + 1) f fd ps (spF K ms (fnRun N.length ms body)) := by
  refine F.ok S (fun vs H Q E h => ?_) (fun cdv A outer s H vs Q E hr h => ⟨_, PSs.nox (hb cdv A outer s H E hr), ?_⟩)
  · obtain ⟨Sh, F, L, args, z, os, hl, _⟩ := h
    rw [hl, hms]
  · obtain ⟨Sh, F, L, args, z, os, hl, wd, e, q⟩ := h
    unfold fnRun at e
    split at e
    · rename_i hargs
      obtain ⟨⟨fl, ds'⟩, e1, e2⟩ := Res.of_bind e
      have hsl : (slotsIn ms args).length = ms.length := slotsIn_len hargs
      have hst : L2.start N vs = vs.map some ++ List.replicate (N.length - ms.length) none := by unfold L2.start; rw [hl]
      rw [hst]
      have wd' : Wd K Sh F L H (vs.map some ++ List.replicate (N.length - ms.length) none) (slotsIn ms args ++ List.replicate (N.length - ms.length) .no) := by
        refine ⟨wd.wf, wd.wl, wd.dj, wd.sl.more, fun i d e => ?_, wd.tabs⟩
        by_cases hi : i < (slotsIn ms args).length
        · rw [List.getElem?_append_left hi] at e
          obtain ⟨v, q, r⟩ := wd.lk i d e
          exact ⟨v, by rw [List.getElem?_append_left (by rw [List.length_map]; omega)]; exact q, r⟩
        · rw [List.getElem?_append_right (by omega), List.getElem?_replicate] at e
          split at e <;> cases e
      have agr : ∀ {σ' : St}, Ag (prot ms) (vs.map some ++ List.replicate (N.length - ms.length) none) σ' → ∀ i : Nat, ms[i]? = some true → σ'[i]? = (vs.map some)[i]? := fun {σ'} ag i h => by
        have hi : i < ms.length := (List.getElem?_eq_some_iff.mp h).1
        rw [ag.2 i (by unfold prot; rw [List.mem_filter]; exact ⟨List.mem_range.mpr hi, by simp [List.getD, h]⟩), List.getElem?_append_left (by rw [List.length_map]; omega)]
      refine ⟨Sh, F, L, _, fl, ds', wd', e1, ?_⟩
      cases fl with
      | nx =>
        obtain ⟨os', e3, e4⟩ := Res.of_bind e2
        cases e4
        exact fun σ' H' Sh' F' p => q .non H' Sh' emp F' (p.stp.weak (.un .nil .refl)) .nil_l .non (outs_ok e3 p.sl hl (agr p.ag))
      | rt d =>
        obtain ⟨os', e3, e4⟩ := Res.of_bind e2
        cases e4
        exact fun σ' v H' Sh' G F' p => q v H' Sh' G F' p.stp p.dj p.rep (outs_ok e3 p.sl hl (agr p.ag))
      | br => cases e2
      | ct => cases e2
    · cases e
end
end Vd
end
section
namespace Vd
open PySem L2
theorem extend_tuple (l : Addr) (items : Array Value) (n : Nat) (b : Addr) (items2 : Array Value) (n2 : Nat) (dd : Option Addr) (sl : Array (Option Value)) (hs0 : ¬(!items.isEmpty && Builtin.List.listTooLong (items.size + items2.size)) = true) (hs1 : items.size ≤ sizeLine) (hs2 : items.size + items2.size ≤ sizeLine + 1) :
    Meets (Builtin.«list.extend» ⟨[.ref l, .ref b], []⟩) (fun _ R s => s.heap.get? l = some { cls := .type "list", dict := none, data := .seq items n, slots := #[] } ∧ s.heap.get? b = some { cls := .type "tuple", dict := dd, data := .seq items2 n2, slots := sl } ∧ R (.ok (.ret Value.none)) { s with heap := s.heap.update l (Obj.mapSeq fun x => x ++ items2), toks := s.toks }) :=
  .of_wp fun prog w A R s h => by
    obtain ⟨hp, g, d, tk, os⟩ := s; obtain ⟨hl, hb, h⟩ := h; have f1 := AutoSeq1.idx_int; have f2 := AutoSeq1.sub_tuple_tuple; have f3 := AutoSeq1.sub_list_list; have f4 := AutoSeq1.sub_tuple_list; have f5 := AutoSeq1.sub_list_tuple;
    have hz' : (items ++ items2).size ≤ sizeLine + 1 := by rw [Array.size_append]; exact hs2
    wp_walk using (wpAny_updateSeq hl rfl (hz := hs1) (_hz' := hz')), AutoSeq1.wpAny_loadPart' hl, AutoSeq1.wpAny_loadPart' hb; exact ⟨_, rfl, h⟩
section
variable {K : PySem.W.Frag} {X : Cx} {P : List Nat}
def rExtendX (K : PySem.W.Frag) : V → List V → Hp → VK → Prop := fun x vs H Q => ∃ l b xs zs, x = .ref l ∧ vs = [.ref b] ∧ H l = some (.lst xs) ∧ (LX K H b zs ∨ SqT K H b zs) ∧ xs.length + zs.length ≤ sizeLine ∧ Q .non (upd H l (.lst (xs ++ zs)))
theorem mt_extendX : MtM X "list.extend" (rExtendX X.K) := by
  intro pins s σ H x vs v us Q I rx rv h
  obtain ⟨l, b, xs, zs, rfl, rfl, hH, hB, hz, q⟩ := h
  cases rx
  obtain ⟨u, rfl, ru⟩ := rv.one
  cases ru
  obtain ⟨z, its, n, r, hl, e⟩ := I.lstM hH
  rcases hB with hB | hB
  · obtain ⟨z2, its2, n2, r2, hl2, e2⟩ := I.listX hB
    have hsz : its.toArray.size + its2.toArray.size ≤ sizeLine := by rw [List.size_toArray, List.size_toArray]; omega
    have hlong : ¬ (!its.toArray.isEmpty && Builtin.List.listTooLong (its.toArray.size + its2.toArray.size)) = true := by
      rw [notLongL hsz, Bool.and_false]
      exact Bool.false_ne_true
    refine call_meets F.slot_list_extend ⟨_, e, rfl⟩ F.entry_list_extend (F.args_list_extend_2 _ _)
      (AutoSeq1.list_extend_list_list_0 l its.toArray n b its2.toArray n2 hlong (by rw [List.size_toArray]; omega) (by omega)) ⟨e, e2, ?_⟩
    refine ⟨.non, _, I.lset (its' := its ++ its2) hH e (by simp) (r.append r2) ?_, rfl, q⟩
    rw [List.length_append]
    omega
  · obtain ⟨its2, r2, ⟨⟨oc, dd, od, sl⟩, e2, c2, n2, d2⟩, hz2⟩ := I.tuple hB
    simp only at c2 d2
    subst c2 d2
    have hl2 := r2.length
    have hsz : its.toArray.size + its2.toArray.size ≤ sizeLine := by rw [List.size_toArray, List.size_toArray]; omega
    have hlong : ¬ (!its.toArray.isEmpty && Builtin.List.listTooLong (its.toArray.size + its2.toArray.size)) = true := by
      rw [notLongL hsz, Bool.and_false]
      exact Bool.false_ne_true
    refine call_meets F.slot_list_extend ⟨_, e, rfl⟩ F.entry_list_extend (F.args_list_extend_2 _ _)
      (extend_tuple l its.toArray n b its2.toArray n2 dd sl hlong (by rw [List.size_toArray]; omega) (by omega)) ⟨e, e2, ?_⟩
    refine ⟨.non, _, I.lset (its' := its ++ its2) hH e (by simp) (r.append r2) ?_, rfl, q⟩
    rw [List.length_append]
    omega

theorem Sl.change {Sh F G : AS} {H : Hp} {σ : St} {ds : Ds} {i : Nat} {d : D} (sl : Sl K Sh H σ ds F) (q : ds[i]? = some (.own d)) (w : Wf Sh F H) (dG : Dj G F) : ∃ v g, σ[i]? = some (some v) ∧ Rep K Sh H v d g ∧ Sub g F ∧
    ∀ {a : Addr} {xs zs : List V} {d' : D} {Gk : AS}, g a → H a = some (.lst xs) → Sub Gk (un g G) → Rep K Sh (upd H a (.lst zs)) v d' Gk → Sl K Sh (upd H a (.lst zs)) σ (ds.set i (.own d')) (un Gk (fun b => F b ∧ ¬ g b)) := by
  obtain ⟨l, g, h1, h2, h3⟩ := sl
  obtain ⟨v, e', r⟩ := h1 i d q
  refine ⟨v, g i, e', r, h2 i, fun {a xs zs d' Gk} ha hH sk rn => ⟨by rw [List.length_set]; exact l, fun j => if j = i then Gk else g j, fun j d2 e => ?_, fun j => ?_, fun j k n => ?_⟩⟩
  · rcases get_set e with ⟨rfl, z⟩ | ⟨n, z⟩
    · cases z
      dsimp only
      rw [if_pos rfl]
      exact ⟨v, e', rn⟩
    · obtain ⟨u, q1, q2⟩ := h1 j d2 z
      dsimp only
      rw [if_neg n]
      exact ⟨u, q1, q2.keep (Kp.mut (Sh := Sh) hH) (fun b x y => w.dj b (by rw [x]; exact h2 i a ha) y) .refl fun b x y => h3 j i n b x (by rw [y]; exact ha)⟩
  · dsimp only
    by_cases z : j = i
    · rw [if_pos z]; exact .l
    · rw [if_neg z]; exact fun b x => .inr ⟨h2 j b x, fun y => h3 j i z b x y⟩
  · have dk : ∀ k, k ≠ i → Dj Gk (g k) := fun k n b x y => (sk b x).elim (fun t => h3 i k (Ne.symm n) b t y) fun t => dG b t (h2 k b y)
    dsimp only
    by_cases z : j = i
    · rw [if_pos z, if_neg (fun y => n (z.trans y.symm))]
      exact dk k fun y => n (z.trans y.symm)
    · rw [if_neg z]
      by_cases y : k = i
      · rw [if_pos y]; exact (dk j z).symm
      · rw [if_neg y]; exact h3 j k n
def MutOk (K : PySem.W.Frag) (r : V → List V → Hp → VK → Prop) (f : List D → List D → Res (D × List D)) : Prop := ∀ (Sh : AS) (H : Hp) (a : Addr) (vs : List V) (xs : List D) (Gx : AS) (avs : List V) (args : List D) (Ga : AS) (z : D) (ys : List D) (Q : VK),
  H a = some (.lst vs) → Reps K Sh H vs xs Gx → Reps K Sh H avs args Ga → Dj Gx Ga → f args xs = .ok (z, ys) →
  (∀ v zs Gy Gz, Reps K Sh H zs ys Gy → Rep K Sh H v z Gz → Sub Gy (un Gx Ga) → Sub Gz (un Gx Ga) → Dj Gy Gz → Q v (upd H a (.lst zs))) → r (.ref a) avs H Q
def rMut (i : Nat) (f : List D → List D → Res (D × List D)) (rs : List ES) : ES := fun ds => match ds[i]? with
  | some (.own (.lst true _)) => (rSeq rs ds).bind fun p => match p.2[i]? with
    | some (.own (.lst true xs)) => (f p.1 xs).bind fun q => .ok (q.1, p.2.set i (.own (.lst true q.2)))
    | _ => .bad
  | _ => .bad
theorem Rep.ownI {Sh : AS} {H : Hp} {v : V} {xs : List D} {g : AS} (r : Rep K Sh H v (.lst true xs) g) : ∃ a vs G, v = .ref a ∧ H a = some (.lst vs) ∧ g a ∧ Sub G g ∧ ¬ G a ∧ Reps K Sh H vs xs G := by
  cases r with
  | lstO a b c d e => exact ⟨_, _, _, rfl, a, b, c, d, e⟩
theorem mut_go {r : V → List V → Hp → VK → Prop} {f : List D → List D → Res (D × List D)} {rs : List ES} {i : Nat} (m : MutOk K r f) : ∀ σ H Q, tE K (rMut i f rs) σ H Q → tBM K "list" r (tVar i) (tAo K rs) σ H Q := by
  rintro σ H Q ⟨Sh, F, L, ds, d, ds', w, e, k⟩
  unfold rMut at e
  split at e
  · rename_i xs0 q0
    obtain ⟨⟨args, ds1⟩, e1, e⟩ := Res.of_bind e
    dsimp only at e
    split at e
    · rename_i xs q1
      obtain ⟨⟨z, ys⟩, e2, e⟩ := Res.of_bind e
      cases e
      obtain ⟨l0, g0, h1, _⟩ := id w.sl
      obtain ⟨v0, ev0, r0⟩ := h1 i _ q0
      obtain ⟨a, vs0, G0, rfl, hH0, _, _, _, _⟩ := r0.ownI
      refine ⟨.ref a, ev0, .inl ⟨rfl, vs0, .inl (.inl hH0)⟩, Sh, F, L, ds, args, ds1, w, e1, fun avs H1 Sh1 Ga F1 p => ?_⟩
      have wF1 : Wf Sh1 F1 H1 := p.stp.wf.sub .r
      obtain ⟨v1, g, ev1, rv, sg, chg⟩ := p.sl.change q1 wF1 p.dj
      rw [ev0] at ev1
      cases ev1
      obtain ⟨a', vs, Gx, ea, hH, ga, sG, nG, rx⟩ := rv.ownI
      cases ea
      refine m Sh1 H1 a vs xs Gx avs args Ga z ys Q hH rx p.rep (p.dj.symm.sub (sG.trans sg) .refl) e2 fun v zs Gy Gz ry rz sy sz dj => ?_
      have na : ¬ un Gx Ga a := fun y => y.elim nG fun y => p.dj a y (sg a ga)
      have kD := Kp.mut (Sh := Sh1) (zs := zs) hH
      have dD : Dj (fun b => b = a) Sh1 := fun b x y => wF1.dj b (by rw [x]; exact sg a ga) y
      have rep' : Rep K Sh1 (upd H1 a (.lst zs)) (.ref a) (.lst true ys) (fun b => b = a ∨ Gy b) :=
        .lstO (G := Gy) upd_same (.inl rfl) .r (fun y => na (sy a y)) (ry.keep kD dD .refl fun b x y => na (sy a (y ▸ x)))
      have sl' := chg (zs := zs) (d' := .lst true ys) (Gk := fun b => b = a ∨ Gy b) ga hH (fun b x => x.elim (fun y => .inl (by rw [y]; exact ga)) fun y => (sy b y).elim (fun t => .inl (sG b t)) .inr) rep'
      have st := Stp.mut (zs := zs) (p.stp.wf) (p := a) (.inr (sg a ga)) hH
      refine k v _ Sh1 Gz _ ⟨(p.stp.trans st).weak ?_, ?_, rz.keep kD dD .refl fun b x y => na (sz a (y ▸ x)), sl', p.lks.trans .set⟩
      · intro b x
        rcases x with x | (x | x) | x
        · exact (sz b x).elim (fun t => .inr (sg b (sG b t))) .inl
        · exact .inr (by rw [x]; exact sg a ga)
        · exact (sy b x).elim (fun t => .inr (sg b (sG b t))) .inl
        · exact .inr x.1
      · intro b x y
        rcases y with (y | y) | y
        · exact na (by rw [← y]; exact sz b x)
        · exact dj b y x
        · exact (sz b x).elim (fun t => y.2 (sG b t)) fun t => p.dj b t y.1
    · cases e
  · cases e

def appendF : List D → List D → Res (D × List D)
  | [d], xs => if xs.length < sizeLine then .ok (.non, xs ++ [d]) else .bad
  | _, _ => .bad
theorem Reps.oneI {Sh : AS} {H : Hp} {vs : List V} {d : D} {G : AS} (r : Reps K Sh H vs [d] G) : ∃ v, vs = [v] ∧ Rep K Sh H v d G := by
  cases r with
  | cons a b c d e => cases b; exact ⟨_, rfl, a.mono c⟩
theorem m_append : MutOk K rAppend appendF := by
  intro Sh H a vs xs Gx avs args Ga z ys Q hH rx ra dj e k
  unfold appendF at e
  split at e
  · split at e
    · rename_i d xs hl
      cases e
      obtain ⟨v, rfl, rv⟩ := ra.oneI
      exact ⟨a, vs, v, rfl, rfl, hH, by rw [rx.length]; exact hl, k .non _ (un Gx Ga) emp (rx.app (Reps.one rv) dj) .non .refl .nil .nil_r⟩
    · cases e
  · cases e
theorem e_append {x : Str} {e : Expr} {p apos cpos : Pos} {i : Nat} {r : ES} (h : PE X e (tE X.K r)) (hN : X.N[i]? = some x := by rfl) (hv : Vis X.env.scope x := by first | exact Or.inl rfl | exact Or.inr (Or.inl rfl) | exact Or.inr (Or.inr rfl)) (hd : (x == ("__debug__" : Str)) = false := by decide)
    (hcd : (x == ("__classdict__" : Str)) = false := by decide) (hbase : attributeBase (.Name x p) "append" X.env (eval (.Name x p) X.env) = eval (.Name x p) X.env := by rfl)
    (hfew : ((backTo cpos (starEach [e] X.env)).all (fun x => !x.1) && (backToKw cpos (keywordEach [] X.env)).all (fun x => x.1.isSome)
      && decide ([e].length + ([] : List Keyword).length + (if ([] : List Keyword).isEmpty then 0 else 1) < 30)) = true := by rfl)
    (hline : (apos.endLine == cpos.line) = true := by rfl) (hs : starEach [e] X.env = (false, eval e X.env) :: starEach [] X.env := by rfl) (hplain : (backTo cpos (starEach [] X.env)).any (·.1) = false := by rfl) :
    PE X (.Call (.Attribute (.Name x p) "append" apos) [e] [] cpos) (tE X.K (rMut i appendF [r])) :=
  (pe_bm F.plainAttrs_list F.slot_list_append F.type_list_append mt_append (pe_var hN hv hd hcd) (ao_cons h ao_nil hs) hbase hfew hline hs hplain).imp (mut_go m_append)
theorem Reps.pick {Sh : AS} {H : Hp} : ∀ {vs : List V} {ds : List D} {F : AS} {j : Nat} {d : D}, Reps K Sh H vs ds F → ds[j]? = some d → ∃ v G1 G2, vs[j]? = some v ∧ Rep K Sh H v d G1 ∧ Reps K Sh H (vs.eraseIdx j) (ds.eraseIdx j) G2 ∧ Sub G1 F ∧ Sub G2 F ∧ Dj G1 G2 ∧
      ∀ {u : V} {d' : D} {G' : AS}, Rep K Sh H u d' G' → Dj G' G2 → Reps K Sh H (vs.set j u) (ds.set j d') (un G' G2)
  | _, _, _, _, _, .nil, e => by simp at e
  | _, _, F, 0, d, .cons (G1 := G1) (G2 := G2) a b s1 s2 dj, e => by
    simp at e; subst e
    exact ⟨_, G1, G2, rfl, a, b, s1, s2, dj, fun {u d' G'} r d => .cons r b .l .r d⟩
  | _, _, F, j + 1, d, .cons (G1 := G1) (G2 := G2) a b s1 s2 dj, e => by
    obtain ⟨v, K1, K2, h1, h2, h3, h4, h5, h6, h7⟩ := Reps.pick (j := j) b (by simpa using e)
    refine ⟨v, K1, un G1 K2, by simpa using h1, h2, ?_, h4.trans s2, .un s1 (h5.trans s2), Dj.un_r (dj.symm.sub h4 .refl) h6, fun {u d' G'} r d => ?_⟩
    · simp only [List.eraseIdx_cons_succ]
      exact .cons a h3 .l .r (dj.sub .refl h5)
    · simp only [List.set_cons_succ]
      exact .cons a (h7 r (d.sub .refl .r)) (Sub.trans .l .r) (.un .l (Sub.trans .r .r)) (Dj.un_r (d.sub .refl .l).symm (dj.sub .refl h5))
def extD (d : D) (xs : List D) : Res (List D) := match d with
  | .lst _ ys => if (isFzs ys && decide (xs.length + ys.length ≤ sizeLine)) = true then .ok (xs ++ ys) else .bad
  | .tup ys => if xs.length + ys.length ≤ sizeLine then .ok (xs ++ ys) else .bad
  | _ => .bad
def rExt (i : Nat) (o : Opd) : ES := fun ds => match ds[i]? with
  | some (.own (.lst true _)) => (o fun y => fun ds1 => match ds1[i]? with
    | some (.own (.lst true xs)) => (extD y xs).bind fun zs => .ok (.non, ds1.set i (.own (.lst true zs)))
    | _ => .bad) ds
  | _ => .bad
theorem e_extend {x : Str} {e : Expr} {p apos cpos : Pos} {i : Nat} {o : Opd} (h : EO X e o) (hN : X.N[i]? = some x := by rfl) (hv : Vis X.env.scope x := by first | exact Or.inl rfl | exact Or.inr (Or.inl rfl) | exact Or.inr (Or.inr rfl)) (hd : (x == ("__debug__" : Str)) = false := by decide)
    (hcd : (x == ("__classdict__" : Str)) = false := by decide) (hbase : attributeBase (.Name x p) "extend" X.env (eval (.Name x p) X.env) = eval (.Name x p) X.env := by rfl)
    (hfew : ((backTo cpos (starEach [e] X.env)).all (fun x => !x.1) && (backToKw cpos (keywordEach [] X.env)).all (fun x => x.1.isSome)
      && decide ([e].length + ([] : List Keyword).length + (if ([] : List Keyword).isEmpty then 0 else 1) < 30)) = true := by rfl)
    (hline : (apos.endLine == cpos.line) = true := by rfl) (hs : starEach [e] X.env = (false, eval e X.env) :: starEach [] X.env := by rfl) (hplain : (backTo cpos (starEach [] X.env)).any (·.1) = false := by rfl) :
    PE X (.Call (.Attribute (.Name x p) "extend" apos) [e] [] cpos) (tE X.K (rExt i o)) := by
  obtain ⟨te, a1, a2, a3⟩ := h
  refine (pe_bm F.plainAttrs_list F.slot_list_extend F.type_list_extend mt_extendX (pe_var hN hv hd hcd) (pa_cons a1 pa_nil hs) hbase hfew hline hs hplain).imp fun σ H Q ⟨Sh, F, L, ds, d, ds', w, e, k⟩ => ?_
  unfold rExt at e
  split at e
  · rename_i xs0 q0
    obtain ⟨l0, g0, h1, _⟩ := id w.sl
    obtain ⟨v0, ev0, r0⟩ := h1 i _ q0
    obtain ⟨a, vs0, G0, rfl, hH0, _, _, _, _⟩ := r0.ownI
    refine ⟨.ref a, ev0, .inl ⟨rfl, vs0, .inl (.inl hH0)⟩, a3 (fun y H1 ⟨d1, h1⟩ => ?_) (a2 [] _ σ H Q ⟨Sh, F, L, ds, d, ds', w, (fun _ z => nomatch z), e, k⟩)⟩
    obtain ⟨Sh1, F1, L1, ds1, d2, ds2, w1, hv1, e1, k1⟩ := h1
    dsimp only at e1
    split at e1
    · rename_i xs q1
      obtain ⟨zs, e2, e3⟩ := Res.of_bind e1
      cases e3
      have ry := hv1 (y, d1) (by simp)
      obtain ⟨v1, g, ev1, rv, sg, chg⟩ := w1.sl.change (G := emp) q1 w1.wf .nil_l
      rw [ev0] at ev1
      cases ev1
      obtain ⟨a', vs, Gx, ea, hH, ga, sG, nG, rx⟩ := rv.ownI
      cases ea
      have fin : ∀ {us : List V} {ys : List D}, Reps X.K Sh1 H1 us ys emp → zs = xs ++ ys → (∀ v, v = V.non → Q v (upd H1 a (.lst (vs ++ us)))) := fun {us ys} ru ez v ev => by
        subst ez ev
        have kD := Kp.mut (Sh := Sh1) (zs := vs ++ us) hH
        have dD : Dj (fun b => b = a) Sh1 := fun b x y => w1.wf.dj b (by rw [x]; exact sg a ga) y
        have rep' : Rep X.K Sh1 (upd H1 a (.lst (vs ++ us))) (.ref a) (.lst true (xs ++ ys)) (fun b => b = a ∨ Gx b) :=
          .lstO (G := Gx) upd_same (.inl rfl) .r nG (((rx.app ru .nil_r).mono (.un .refl .nil)).keep kD dD .refl fun b x y => nG (y ▸ x))
        have sl' := chg (zs := vs ++ us) (d' := .lst true (xs ++ ys)) (Gk := fun b => b = a ∨ Gx b) ga hH (fun b x => x.elim (fun y => .inl (by rw [y]; exact ga)) fun y => .inl (sG b y)) rep'
        have st := Stp.mut (zs := vs ++ us) w1.wf (p := a) (sg a ga) hH
        refine k1 .non _ Sh1 emp _ ⟨st.weak (.un .nil fun b x => ?_), .nil_l, .non, sl', .set⟩
        rcases x with (x | x) | x
        · rw [x]; exact sg a ga
        · exact sg b (sG b x)
        · exact x.1
      cases d1 <;> simp only [extD] at e2 <;> first | (cases e2; done) | skip
      · split at e2
        · rename_i ys hl
          cases e2
          obtain ⟨b, us, rfl, hb, rb⟩ := ry.tupI
          exact ⟨a, b, vs, us, rfl, rfl, hH, .inr hb, by rw [rx.length, rb.length]; exact hl, fin rb rfl _ rfl⟩
        · cases e2
      · split at e2
        · rename_i o' ys hl
          simp only [Bool.and_eq_true, decide_eq_true_eq] at hl
          cases e2
          obtain ⟨b, us, rfl, hb, rb⟩ := ry.lst
          exact ⟨a, b, vs, us, rfl, rfl, hH, .inl hb, by rw [rx.length, rb.length]; exact hl.2, fin (rb.ofFz hl.1) rfl _ rfl⟩
        · cases e2
    · cases e1
  · cases e

def idxD (xs : List D) : D → Res D
  | .int k => match ixN xs.length k with
    | some j => .ok (.int (j : Nat))
    | none => .bad
  | _ => .bad
def gItem (i : Nat) (o : Opd) : GS := fun d ds => match ds[i]? with
  | some (.own (.lst true xs)) => (o (fun y => rEnd (idxD xs y)) (ds.set i (.lk (.lst true xs)))).bind fun p => match p.1 with
      | .int j => .ok (p.2.set i (.own (.lst true (xs.set j.toNat d))))
      | _ => .bad
  | _ => .bad
theorem g_item {x : Str} {e : Expr} {p pos : Pos} {i : Nat} {o : Opd} (h : EO X e o) (hN : X.N[i]? = some x := by rfl) (hv : Vis X.env.scope x := by first | exact Or.inl rfl | exact Or.inr (Or.inl rfl) | exact Or.inr (Or.inr rfl)) (hd : (x == ("__debug__" : Str)) = false := by decide)
    (hcd : (x == ("__classdict__" : Str)) = false := by decide)
    (ha : ∀ v, assign (.Subscript (.Name x p) e pos) X.env v = (do
      let ov ← holding [v] (eval (.Name x p) X.env)
      let iv ← holding [v, ov] (eval e X.env)
      standAt pos
      holding [v, ov, iv] (setItem ov iv v)
      release [v, ov, iv] []) := by intro _; rfl) : PG X (.Subscript (.Name x p) e pos) (tG X.K P (gItem i o)) := by
  obtain ⟨te, a1, a2, a3⟩ := h
  refine (pg_sub (pe_var hN hv hd hcd) a1 set_list ha).imp fun v σ H Q ⟨Sh, G, F, L, ds, d, ds', hd, e, k⟩ => ?_
  unfold gItem at e
  split at e
  · rename_i xs q0
    obtain ⟨⟨dj, ds2⟩, e1, e2⟩ := Res.of_bind e
    dsimp only at e2
    split at e2
    · rename_i j
      cases e2
      obtain ⟨v0, g, F1, ev0, r0, sg, w1, back⟩ := lock hd.wd q0
      obtain ⟨a, vs, Gx, rfl, hH, ga, sG, nG, rx⟩ := id r0.ownI
      have hh : tE X.K (o (fun y => rEnd (idxD xs y))) σ H (fun v' H' => ∃ Sh' G' F', Post X.K Sh F1 H σ (ds.set i (.lk (.lst true xs))) (.int j) ds2 v' H' Sh' G' F') :=
        ⟨Sh, F1, un L g, _, _, _, w1, e1, fun v' H' Sh' G' F' pp => ⟨Sh', G', F', pp⟩⟩
      refine ⟨.ref a, ev0, a3 (fun y H1 ⟨d1, h1⟩ => ?_) (a2 [] _ σ H _ (tV_nil hh))⟩
      refine tV_end h1 fun Sh9 L9 z hv9 ez kk => ?_
      have ry := hv9 (y, d1) (by simp)
      cases d1 <;> simp only [idxD] at ez <;> first | (cases ez; done) | skip
      rename_i kx
      split at ez
      · rename_i j' hj
        cases ez
        obtain ⟨Sh2, G2, F2, pp⟩ := kk (.int (j' : Nat)) H1 emp .refl (.int _)
        have hjj : j = (j' : Int) := by
          have := pp.rep
          cases this
          rfl
        subst hjj
        have pb := back pp
        have il : i < ds2.length := by
          have h1 := pp.sl.len
          have h2 := hd.wd.sl.len
          have h3 := (List.getElem?_eq_some_iff.mp q0).1
          omega
        have wF2 : Wf Sh2 (un g F2) H1 := pb.stp.wf.sub .r
        have s2 : Stp Sh F H Sh2 (un g F2) H1 := pb.stp.weak .r
        obtain ⟨stb, djG⟩ := s2.beside hd.wf hd.dj
        have rv := hd.rep.stp s2 hd.wd.wf hd.dj
        have q2 : (ds2.set i (.own (.lst true xs)))[i]? = some (.own (.lst true xs)) := List.getElem?_set_self il
        obtain ⟨v1, g1, ev1, r1, sg1, chg⟩ := pb.sl.change (G := G) q2 wF2 djG
        rw [ev0] at ev1
        cases ev1
        obtain ⟨a', vs1, Gx1, ea, hH1, ga1, sG1, nG1, rx1⟩ := r1.ownI
        cases ea
        have hl1 : vs1.length = xs.length := rx1.length
        refine ⟨a, vs1, kx, j', rfl, ry.intI, hH1, by rw [hl1]; exact hj, ?_⟩
        obtain ⟨_, hlt, _, _⟩ := ixN_seq hj
        obtain ⟨vj, K1, K2, k1, k2, k3, k4, k5, k6, k7⟩ := rx1.pick (show xs[j']? = some xs[j'] by simp [hlt])
        have kD := Kp.mut (Sh := Sh2) (zs := vs1.set j' v) hH1
        have dD : Dj (fun b => b = a) Sh2 := fun b x y => wF2.dj b (by rw [x]; exact sg1 a ga1) y
        have naG : ¬ G a := fun z => djG a z (sg1 a ga1)
        have dGK : Dj G K2 := djG.sub .refl (k5.trans (sG1.trans sg1))
        have rep' : Rep X.K Sh2 (upd H1 a (.lst (vs1.set j' v))) (.ref a) (.lst true (xs.set j' d)) (fun b => b = a ∨ un G K2 b) :=
          .lstO (G := un G K2) upd_same (.inl rfl) .r (fun z => z.elim naG fun z => nG1 (k5 a z)) ((k7 rv dGK).keep kD dD .refl fun b x y => x.elim (fun z => naG (y ▸ z)) fun z => nG1 (k5 a (y ▸ z)))
        have sl' := chg (zs := vs1.set j' v) (d' := .lst true (xs.set j' d)) (Gk := fun b => b = a ∨ un G K2 b) ga1 hH1 (fun b x => x.elim (fun y => .inl (by rw [y]; exact ga1)) fun y => y.elim .inr fun z => .inl (sG1 b (k5 b z))) rep'
        have st := Stp.mut (zs := vs1.set j' v) stb.wf (p := a) (.inr (sg1 a ga1)) hH1
        rw [set_set] at sl'
        refine k _ _ Sh2 _ ⟨(stb.trans st).weak fun b x => ?_, sl', fun j2 d2 h2 => ?_, .refl⟩
        · rcases x with (x | x | x) | x
          · exact .inr (by rw [x]; exact sg1 a ga1)
          · exact .inl x
          · exact .inr (sg1 b (sG1 b (k5 b x)))
          · exact .inr x.1
        · rcases get_set h2 with ⟨_, z⟩ | ⟨n, z⟩
          · cases z
          · refine ⟨pb.lks j2 d2 ?_, rfl⟩
            rw [List.getElem?_set_ne (Ne.symm n)]
            exact z
      · cases ez
    · cases e2
  · cases e
theorem e_glob {x : Str} {pos : Pos} {d : D} {v : V} {u : Value} (hm : X.mg x = some u) (r : RelV v u) (hr : ∀ Sh H G, Rep X.K Sh H v d G) (hg : Gl X x := by rfl) (hd : (x == ("__debug__" : Str)) = false := by decide) : PE X (.Name x pos) (tE X.K (rC d)) :=
  (pe_glob hg hm r hd).imp fun σ H Q ⟨Sh, F, L, ds, d, ds', w, e, k⟩ => by
    cases e
    exact k _ _ _ _ _ (.pure w fun G => hr Sh H G)
end
end Vd
end
section
namespace Vd
open PySem L2
section
variable {X : Cx} {K : PySem.W.Frag} {a b c : Expr} {oa ob oc : Opd} {pos : Pos} {k : Nat} {P : List Nat}
theorem x_add (ha : EO X a oa) (hb : EO X b ob) : PE X (.BinOp a .Add b pos) (tE X.K (r2 addD oa ob)) := e_bin op_addA o_add ha hb
theorem x_sub (ha : EO X a oa) (hb : EO X b ob) : PE X (.BinOp a .Sub b pos) (tE X.K (r2 subD oa ob)) := e_bin op_sub o_I0 ha hb
theorem x_mul (ha : EO X a oa) (hb : EO X b ob) : PE X (.BinOp a .Mult b pos) (tE X.K (r2 mulD oa ob)) := e_bin op_mulA o_mul ha hb
theorem x_fdiv (ha : EO X a oa) (hb : EO X b ob) : PE X (.BinOp a .FloorDiv b pos) (tE X.K (r2 fdivD oa ob)) := e_bin (op_fdivN.or op_fdivW) o_fdiv ha hb
theorem x_mod (ha : EO X a oa) (hb : EO X b ob) : PE X (.BinOp a .Mod b pos) (tE X.K (r2 modD oa ob)) := e_bin op_modN o_mod ha hb
theorem x_pow (ha : EO X a oa) (hb : EO X b ob) : PE X (.BinOp a .Pow b pos) (tE X.K (r2 powD oa ob)) := e_bin op_pow o_pow ha hb
theorem x_neg (ha : EO X a oa) : PE X (.UnaryOp .USub a pos) (tE X.K (r1 negD oa)) := e_un un_neg o_neg ha
theorem hu64 {A : Around} (hr : Room k A) : A.units + 64 < cLine := hr.units
theorem hu65 {A : Around} (hr : Room k A) : A.units + 65 < cLine := by have := hr.un; omega
theorem x_eq (hr : Room k X.A) (ha : EO X a oa) (hb : EO X b ob) : PE X (.Compare a [.Eq] [b] pos) (tE X.K (r2 eqD oa ob)) := e_cmp (op_eqD (hu64 hr)) o_eq ha hb
theorem x_lt (hr : Room k X.A) (ha : EO X a oa) (hb : EO X b ob) : PE X (.Compare a [.Lt] [b] pos) (tE X.K (r2 ltD oa ob)) := e_cmp (op_ltA hr.units0) o_lt ha hb
theorem t_eq (hr : Room k X.A) (ha : EO X a oa) (hb : EO X b ob) : PT X (.Compare a [.Eq] [b] pos) (tT X.K (bVal (r2 eqD oa ob))) := b_cmp (op_eqD (hu64 hr)) o_eq ha hb
theorem t_ne (hr : Room k X.A) (ha : EO X a oa) (hb : EO X b ob) : PT X (.Compare a [.NotEq] [b] pos) (tT X.K (bVal (r2 neD oa ob))) := b_cmp (op_neD (hu64 hr)) o_ne ha hb
theorem t_lt (hr : Room k X.A) (ha : EO X a oa) (hb : EO X b ob) : PT X (.Compare a [.Lt] [b] pos) (tT X.K (bVal (r2 ltD oa ob))) := b_cmp (op_ltA hr.units0) o_lt ha hb
theorem t_gt (hr : Room k X.A) (ha : EO X a oa) (hb : EO X b ob) : PT X (.Compare a [.Gt] [b] pos) (tT X.K (bVal (r2 gtD oa ob))) := b_cmp op_gt o_IB ha hb
theorem t_is (hr : Room k X.A) (ha : EO X a oa) (hb : EO X b ob) : PT X (.Compare a [.Is] [b] pos) (tT X.K (bVal (r2 isD oa ob))) := b_cmp op_isA o_is ha hb
theorem t_nin (hr : Room k X.A) (ha : EO X a oa) (hb : EO X b ob) (hm : behindInMarks .NotIn b = false := by rfl) : PT X (.Compare a [.NotIn] [b] pos) (tT X.K (bVal (r2 (inD true) oa ob))) := b_cmp (op_notInA (hu65 hr)) o_in ha hb hm
def blsD : List D → Option (List Bool)
  | [] => some []
  | .bl b :: r => (blsD r).map (b :: ·)
  | _ => none
theorem blsD_V {Sh : AS} {H : Hp} : ∀ {vs : List V} {ds : List D} {L : AS} {bs : List Bool}, Reps K Sh H vs ds L → blsD ds = some bs → vs = bs.map V.bl
  | _, _, _, _, .nil, e => by cases e; rfl
  | _, d :: ds, _, ns, .cons a b _ _ _, e => by
    cases d <;> simp only [blsD] at e <;> first | (cases e; done) | skip
    cases q : blsD ds with
    | none => rw [q] at e; cases e
    | some ms =>
      rw [q] at e
      cases e
      rw [a.blI, blsD_V b q]
      rfl
def anyD : List D → Res D
  | [.lst _ xs] => match blsD xs with
    | some bs => .ok (.bl (bs.any id))
    | none => .bad
  | _ => .bad
def allD : List D → Res D
  | [.lst _ xs] => match blsD xs with
    | some bs => .ok (.bl (bs.all id))
    | none => .bad
  | _ => .bad
theorem o_all : OpN K allD (rAll K) := by
  intro Sh L H vs ds z Q r h k
  unfold allD at h
  split at h
  · split at h
    · rename_i bs e
      cases h
      obtain ⟨v, rfl, r'⟩ := r.one
      obtain ⟨a, vs, rfl, ha, ra⟩ := r'.lst
      have := blsD_V ra e
      subst this
      exact ⟨a, bs, rfl, ha.sq, k _ _ _ .refl (.bl _)⟩
    · cases h
  · cases h
variable {e : Expr} {es : List Expr} {os : List Opd} {p : Pos}
theorem x_len (hm : X.mg "len" = none) (ha : EAs X [a] os) (hg : Gl X "len" := by rfl) (he : starEach [a] X.env = (false, eval a X.env) :: starEach [] X.env := by rfl) : PE X (.Call (.Name "len" p) [a] [] pos) (tE X.K (rN lenD os)) := e_blt call_len o_len hm ha (hg := hg) (he := he)
theorem x_abs (hm : X.mg "abs" = none) (ha : EAs X [a] os) (hg : Gl X "abs" := by rfl) (he : starEach [a] X.env = (false, eval a X.env) :: starEach [] X.env := by rfl) : PE X (.Call (.Name "abs" p) [a] [] pos) (tE X.K (rN absD os)) := e_blt call_abs o_abs hm ha (hg := hg) (he := he)
theorem x_list (hm : X.mg "list" = none) (ha : EAs X [a] os) (hg : Gl X "list" := by rfl) (he : starEach [a] X.env = (false, eval a X.env) :: starEach [] X.env := by rfl) : PE X (.Call (.Name "list" p) [a] [] pos) (tE X.K (rN listD' os)) := e_bty call_list_of o_list hm ha (hg := hg) (he := he)
theorem x_tuple (hm : X.mg "tuple" = none) (ha : EAs X [a] os) (hg : Gl X "tuple" := by rfl) (he : starEach [a] X.env = (false, eval a X.env) :: starEach [] X.env := by rfl) : PE X (.Call (.Name "tuple" p) [a] [] pos) (tE X.K (rN tupleD' os)) := e_bty call_tuple_of o_tuple hm ha (hg := hg) (he := he)
theorem x_all (hc : X.calm = true) (hm : X.mg "all" = none) (ha : EAs X [a] os) (hg : Gl X "all" := by rfl) (he : starEach [a] X.env = (false, eval a X.env) :: starEach [] X.env := by rfl) : PE X (.Call (.Name "all" p) [a] [] pos) (tE X.K (rN allD os)) := e_blt (cr_all hc) o_all hm ha (hg := hg) (he := he)
theorem e_globS {x z : Str} {pos : Pos} (h : ∃ t, X.mg x = some (.str z t)) (hg : Gl X x := by rfl) (hd : (x == ("__debug__" : Str)) = false := by decide) : PE X (.Name x pos) (tE X.K (rC (.str z))) := by
  obtain ⟨t, h⟩ := h
  exact e_glob (v := .str z) h ⟨t, rfl⟩ (fun _ _ _ => .str z) hg hd
end
def sem0 : CE := fun _ _ => .bad
theorem fnOk0 {P : Program} {w : World} {K : PySem.W.Frag} {mg : Str → Option Value} {base : Heap} {k : Nat} {f : Addr} {fd : FuncData} {ps : List Str} {ms : List Bool} : FnOk P w K mg base CX0 k f fd ps (spF K ms (sem0 0)) :=
  ⟨(fun _ _ _ _ h => by obtain ⟨_, _, _, _, _, _, _, _, e, _⟩ := h; cases e), (fun _ _ _ _ _ _ _ _ _ _ _ _ _ h => by obtain ⟨_, _, _, _, _, _, _, _, e, _⟩ := h; cases e)⟩
end Vd
end
section
namespace Vd
open PySem L2 PySem.Spec PyProof.Rows
theorem reps_ints {K : PySem.W.Frag} {Sh : AS} {H : Hp} : ∀ ns : List Int, Reps K Sh H (ns.map V.int) (ns.map D.int) emp
  | [] => .nil
  | n :: ns => .cons (G1 := emp) (G2 := emp) (.int n) (reps_ints ns) .nil .nil .nil_l
theorem sp_law {K : PySem.W.Frag} {H : Hp} {a : Addr} {ns : List Int} {sem : List D → Res (D × List D)} {E : XK} (h : LX K H a (ns.map V.int)) (T : LamX.Tabs tabT H) (e : sem [.lst false (ns.map .int)] = .ok (.bl true, [])) : spF K [false] sem [.ref a] H (fun v _ => v = .bl true) E := by
  have fin : ∀ Sh : AS, Rep K Sh H (.ref a) (.lst false (ns.map .int)) emp → Wf Sh emp H → spF K [false] sem [.ref a] H (fun v _ => v = .bl true) E := fun Sh r w => by
    refine ⟨Sh, emp, emp, [.lst false (ns.map .int)], .bl true, [], rfl, ⟨w, w, .nil_l, ⟨rfl, fun _ => emp, fun i d e => ?_, fun _ => .nil, fun _ _ _ => .nil_l⟩, fun i d e => ?_, T⟩, e, fun v H' Sh' G F' _ _ r _ => r.blI⟩
    · match i, e with
      | 0, e => cases e
      | i + 1, e => simp [slotsIn] at e
    · match i, e with
      | 0, e => cases e; exact ⟨_, rfl, r⟩
      | i + 1, e => simp [slotsIn] at e
  rcases h with h | h
  · refine fin (fun b => b = a) (.lstS rfl h (reps_ints ns)) ?_
    exact ⟨.nil_l, fun _ z => z.elim, fun b z => by subst z; rcases h with h | ⟨o, h⟩ <;> rw [h] <;> exact fun z => nomatch z⟩
  · exact fin emp (.lstK h (reps_ints ns)) ⟨.nil_l, fun _ z => z.elim, fun _ z => z.elim⟩
theorem law_endT {law : PySem.W.OpenLaw} {most lv : Nat} {q : Program} {loose : List Str} {XP : (Str → Option Value) → Heap → Prop} {YP : World → Heap → Prop} {d : DefRec} {x : Str}
    (h1 : law.most = some most) (h2 : most ≤ sizeLine) (h3 : d.params.defaults = []) (h4 : Room lv callerA)
    (F : ∀ (w : World) (mg : Str → Option Value) (at_ : Addr) (hp : Heap), YP w hp → hp.Ns mainGlobals mg → mg d.name = some (.ref at_) →
      ∃ (K : PySem.W.Frag) (fn : FuncData) (sem : List D → Res (D × List D)) (cs : List (Addr × Addr)), K.In hp ∧ (∀ p ∈ cs, hp.get? p.2 = some { cls := .none, data := .fields #[] }) ∧ (∀ p ∈ cs, K.lookup p.2 = none) ∧ (∀ p ∈ cs, PySem.W.CodeHd hp p.1 p.2) ∧
        (∀ p ∈ tabT, ∃ c, (c, p.1) ∈ cs) ∧ (∀ (s : Shared) (arg : Value), BindsTo s fn ⟨[arg], []⟩ [(x, arg)]) ∧
        (∀ ns : List Int, ns.length ≤ most → sem [.lst false (ns.map .int)] = .ok (.bl true, [])) ∧
        ∀ base : Heap, K.In base → base.Ns mainGlobals mg → (∀ p ∈ cs, LamX.TabB base mg p.1 p.2) → FnOk law.prog w K mg base CX0 lv at_ fn [x] (spF K [false] sem)) :
    PySem.W.WalkO q loose XP YP law.row.toRowW d [] (fun f vs => PySem.call f vs) := by
  refine Att.attach_callB h1 h3 fun w sA sB mg mb at_ ob pm cd doc scr vals ns G Y ho hd hcd hmg hob hin hlen hbits hgs => ?_
  obtain ⟨K, fn, sem, cs, inK, t1, t2, t3, t4, bind, pure, ok⟩ := F w mg at_ _ Y G.T.g hmg
  refine LamX.law_callTs inK G.T.g G.T.b G.T.builtins G.T.nolimit hgs t1 t2 t3 G.T.bmain hob hin (Nat.le_trans hlen h2) h4 ok bind (fun H hH hS => sp_law ?_ (fun p hp => ?_) (pure ns hlen)) fun H e s' z => z
  · rcases hS with hS | ⟨o, its, n, e1, e2, e3, e4, e5, e6⟩
    · exact .inl hS
    · have := inK _ _ e1
      rw [hob] at this
      cases this
      cases e4
      exact .inr ⟨vals, _, e1, by simpa using e5, by simpa using e6⟩
  · obtain ⟨c, hc⟩ := t4 p hp
    exact .nil (hH _ hc)
end Vd
end
section
namespace Vd
universe u
open PySem L2
inductive Bx {α : Sort u} (a : α) : Type where
  | mk : Bx a
def wE (e : ES) (ds : Ds) (Q : D → Ds → Prop) (_ : Bx e := Bx.mk) (_ : Bx Q := Bx.mk) : Prop := ∃ d ds', e ds = .ok (d, ds') ∧ Q d ds'
def wB (b : BS) (ds : Ds) (Q : Bool → Ds → Prop) (_ : Bx b := Bx.mk) (_ : Bx Q := Bx.mk) : Prop := ∃ d ds', b ds = .ok (d, ds') ∧ Q d ds'
def wS (s : SS) (ds : Ds) (Q : Fl → Ds → Prop) (_ : Bx s := Bx.mk) (_ : Bx Q := Bx.mk) : Prop := ∃ d ds', s ds = .ok (d, ds') ∧ Q d ds'
def wR {α : Type} (r : Res α) (Q : α → Prop) (_ : Bx Q := Bx.mk) : Prop := ∃ a, r = .ok a ∧ Q a
theorem wR_ok {α : Type} {a : α} {Q : α → Prop} : wR (.ok a) Q = Q a := propext ⟨fun ⟨b, e, q⟩ => by cases e; exact q, fun q => ⟨a, rfl, q⟩⟩
theorem wR_bad {α : Type} {Q : α → Prop} : wR (.bad : Res α) Q = False := propext ⟨(fun ⟨b, e, q⟩ => nomatch e), False.elim⟩
theorem wR_ite {α : Type} {c : Prop} [Decidable c] {r : Res α} {Q : α → Prop} : wR (if c then r else .bad) Q = (c ∧ wR r Q) := by
  by_cases h : c
  · simp only [h, if_true, true_and]
  · simp only [h, if_false, false_and, wR_bad]
theorem wR_bind {α β : Type} {r : Res α} {f : α → Res β} {Q : β → Prop} : wR (r.bind f) Q = wR r fun a => wR (f a) Q := by
  cases r with
  | bad => simp only [wR_bad, Res.bind]
  | ok a => simp only [wR_ok, Res.bind]
theorem wR_ext {α : Type} {r : Res α} {Q Q' : α → Prop} (h : ∀ a, Q a = Q' a) : wR r Q = wR r Q' := by
  have : Q = Q' := funext h
  subst this
  rfl
theorem wR_mono {α : Type} {r : Res α} {Q Q' : α → Prop} (h : wR r Q) (k : ∀ a, Q a → Q' a) : wR r Q' := Exists.elim h fun a p => ⟨a, p.1, k a p.2⟩
theorem wE_eq {e : ES} {ds : Ds} {Q : D → Ds → Prop} : wE e ds Q = wR (e ds) fun p => Q p.1 p.2 := propext ⟨fun ⟨d, s, e, q⟩ => ⟨(d, s), e, q⟩, fun ⟨(d, s), e, q⟩ => ⟨d, s, e, q⟩⟩
theorem wB_eq {e : BS} {ds : Ds} {Q : Bool → Ds → Prop} : wB e ds Q = wR (e ds) fun p => Q p.1 p.2 := propext ⟨fun ⟨d, s, e, q⟩ => ⟨(d, s), e, q⟩, fun ⟨(d, s), e, q⟩ => ⟨d, s, e, q⟩⟩
theorem wS_eq {e : SS} {ds : Ds} {Q : Fl → Ds → Prop} : wS e ds Q = wR (e ds) fun p => Q p.1 p.2 := propext ⟨fun ⟨d, s, e, q⟩ => ⟨(d, s), e, q⟩, fun ⟨(d, s), e, q⟩ => ⟨d, s, e, q⟩⟩
theorem w_C {d : D} {ds : Ds} {Q : D → Ds → Prop} : wE (rC d) ds Q = Q d ds := by rw [wE_eq]; exact wR_ok
def gVar (x : Option Slot) (i : Nat) (ds : Ds) (Q : D → Ds → Prop) (_ : Bx Q := Bx.mk) : Prop := match x with
  | some (.own d) => Q d.frz (ds.set i (.own d.frz))
  | some (.lk d) => d.isFz = true ∧ Q d ds
  | _ => False
theorem w_Var {i : Nat} {ds : Ds} {Q : D → Ds → Prop} : wE (rVar i) ds Q = gVar ds[i]? i ds Q := by
  rw [wE_eq]; unfold rVar gVar; generalize ds[i]? = x; rcases x with _ | _ | _ | _ <;> first | exact wR_ok | exact wR_bad | exact wR_ite.trans (by rw [wR_ok])
theorem g_Var1 {d : D} {i : Nat} {ds : Ds} {Q : D → Ds → Prop} : gVar (some (.own d)) i ds Q = Q d.frz (ds.set i (.own d.frz)) := rfl
theorem g_Var2 {d : D} {i : Nat} {ds : Ds} {Q : D → Ds → Prop} : gVar (some (.lk d)) i ds Q = (d.isFz = true ∧ Q d ds) := rfl
def gMv (x : Option Slot) (i : Nat) (ds : Ds) (Q : D → Ds → Prop) (_ : Bx Q := Bx.mk) : Prop := match x with
  | some (.own d) => Q d (ds.set i .no)
  | some (.lk d) => d.isFz = true ∧ Q d ds
  | _ => False
theorem w_Mv {i : Nat} {ds : Ds} {Q : D → Ds → Prop} : wE (rMv i) ds Q = gMv ds[i]? i ds Q := by
  rw [wE_eq]; unfold rMv gMv; generalize ds[i]? = x; rcases x with _ | _ | _ | _ <;> first | exact wR_ok | exact wR_bad | exact wR_ite.trans (by rw [wR_ok])
theorem g_Mv1 {d : D} {i : Nat} {ds : Ds} {Q : D → Ds → Prop} : gMv (some (.own d)) i ds Q = Q d (ds.set i .no) := rfl
theorem g_Mv2 {d : D} {i : Nat} {ds : Ds} {Q : D → Ds → Prop} : gMv (some (.lk d)) i ds Q = (d.isFz = true ∧ Q d ds) := rfl
theorem w_End {z : Res D} {ds : Ds} {Q : D → Ds → Prop} : wE (rEnd z) ds Q = wR z fun d => Q d ds := by
  rw [wE_eq]; unfold rEnd; rw [wR_bind]; exact wR_ext fun p => wR_ok
theorem w_ov {r : ES} {k : D → ES} {ds : Ds} {Q : D → Ds → Prop} : wE (ov r k) ds Q = wE r ds fun d ds1 => wE (k d.frz) ds1 Q := by
  rw [wE_eq, wE_eq]; unfold ov; rw [wR_bind]; exact wR_ext fun p => wE_eq.symm
def gOp (x : Option Slot) (i : Nat) (k : D → ES) (ds : Ds) (Q : D → Ds → Prop) (_ : Bx k := Bx.mk) (_ : Bx Q := Bx.mk) : Prop := match x with
  | some (.own d) => wE (k d) (ds.set i (.lk d)) fun z ds1 => Q z (ds1.set i (.own d))
  | some (.lk d) => wE (k d) ds Q
  | _ => False
theorem w_op {i : Nat} {k : D → ES} {ds : Ds} {Q : D → Ds → Prop} : wE (op i k) ds Q = gOp ds[i]? i k ds Q := by
  rw [wE_eq]; unfold op gOp; generalize ds[i]? = x; rcases x with _ | _ | _ | _
  · exact wR_bad
  · exact wR_bad
  · dsimp only; rw [wR_bind, wE_eq]; exact wR_ext fun p => wR_ok
  · exact wE_eq.symm
theorem g_Op1 {d : D} {i : Nat} {k : D → ES} {ds : Ds} {Q : D → Ds → Prop} : gOp (some (.own d)) i k ds Q = wE (k d) (ds.set i (.lk d)) fun z ds1 => Q z (ds1.set i (.own d)) := rfl
theorem g_Op2 {d : D} {i : Nat} {k : D → ES} {ds : Ds} {Q : D → Ds → Prop} : gOp (some (.lk d)) i k ds Q = wE (k d) ds Q := rfl
def gOz (x : Option Slot) (i : Nat) (k : D → ES) (ds : Ds) (Q : D → Ds → Prop) (_ : Bx k := Bx.mk) (_ : Bx Q := Bx.mk) : Prop := match x with
  | some (.own d) => wE (k d.frz1) (ds.set i (.lk d.frz1)) fun z ds1 => Q z (ds1.set i (.own d.frz1))
  | some (.lk d) => d.isFz1 = true ∧ wE (k d) ds Q
  | _ => False
theorem w_oz {i : Nat} {k : D → ES} {ds : Ds} {Q : D → Ds → Prop} : wE (oz i k) ds Q = gOz ds[i]? i k ds Q := by
  rw [wE_eq]; unfold oz gOz; generalize ds[i]? = x; rcases x with _ | _ | _ | _
  · exact wR_bad
  · exact wR_bad
  · dsimp only; rw [wR_bind, wE_eq]; exact wR_ext fun p => wR_ok
  · dsimp only; rw [wR_ite, wE_eq]
theorem g_Oz1 {d : D} {i : Nat} {k : D → ES} {ds : Ds} {Q : D → Ds → Prop} : gOz (some (.own d)) i k ds Q = wE (k d.frz1) (ds.set i (.lk d.frz1)) fun z ds1 => Q z (ds1.set i (.own d.frz1)) := rfl
theorem g_Oz2 {d : D} {i : Nat} {k : D → ES} {ds : Ds} {Q : D → Ds → Prop} : gOz (some (.lk d)) i k ds Q = (d.isFz1 = true ∧ wE (k d) ds Q) := rfl
theorem w_1 {f : D → Res D} {a : Opd} {ds : Ds} {Q : D → Ds → Prop} : wE (r1 f a) ds Q = wE (a fun x => rEnd (f x)) ds Q := rfl
theorem w_2 {f : D → D → Res D} {a b : Opd} {ds : Ds} {Q : D → Ds → Prop} : wE (r2 f a b) ds Q = wE (a fun x => b fun y => rEnd (f x y)) ds Q := rfl
theorem w_Not {a : Opd} {ds : Ds} {Q : D → Ds → Prop} : wE (rNot a) ds Q = wE (a fun x => rEnd ((tru x).bind fun b => .ok (.bl (!b)))) ds Q := rfl
theorem w_Isi {f : D → Bool} {a : Opd} {ds : Ds} {Q : D → Ds → Prop} : wE (rIsi f a) ds Q = wE (a fun x => rEnd (.ok (.bl (f x)))) ds Q := rfl
theorem w_Isi2 {f g : D → Bool} {a : Opd} {ds : Ds} {Q : D → Ds → Prop} : wE (rIsi2 f g a) ds Q = wE (a fun x => rEnd (.ok (.bl (f x || g x)))) ds Q := rfl
theorem w_Ops0 {k : List D → ES} {ds : Ds} {Q : D → Ds → Prop} : wE (rOps [] k) ds Q = wE (k []) ds Q := rfl
theorem w_Ops1 {o : Opd} {os : List Opd} {k : List D → ES} {ds : Ds} {Q : D → Ds → Prop} : wE (rOps (o :: os) k) ds Q = wE (o fun x => rOps os fun xs => k (x :: xs)) ds Q := rfl
theorem w_Tup {os : List Opd} {ds : Ds} {Q : D → Ds → Prop} : wE (rTup os) ds Q = wE (rOps os fun xs => rEnd (tupD xs)) ds Q := rfl
theorem w_N {f : List D → Res D} {os : List Opd} {ds : Ds} {Q : D → Ds → Prop} : wE (rN f os) ds Q = wE (rOps os fun xs => rEnd (f xs)) ds Q := rfl
theorem w_Sl {a : Opd} {lo hi : (Option Int → ES) → ES} {ds : Ds} {Q : D → Ds → Prop} : wE (rSl a lo hi) ds Q = wE (a fun x => lo fun l => hi fun u => rEnd (sliceD x l u)) ds Q := rfl
theorem w_noPart {k : Option Int → ES} {ds : Ds} {Q : D → Ds → Prop} : wE (noPart k) ds Q = wE (k none) ds Q := rfl
def kPart (x : D) (k : Option Int → ES) : ES := match x with
  | .int i => k (some i)
  | _ => fun _ => .bad
theorem w_aPart {o : Opd} {k : Option Int → ES} {ds : Ds} {Q : D → Ds → Prop} : wE (aPart o k) ds Q = wE (o fun x => kPart x k) ds Q := rfl
theorem k_Part {i : Int} {k : Option Int → ES} {ds : Ds} {Q : D → Ds → Prop} : wE (kPart (.int i) k) ds Q = wE (k (some i)) ds Q := rfl
theorem w_Chain {f g : D → D → Res D} {a b c : Opd} {ds : Ds} {Q : D → Ds → Prop} : wE (rChain f g a b c) ds Q = wE (a fun x => b fun y => fun ds => (f x y).bind fun z => match z with
  | .bl k => if k = true then (c fun w => rEnd (g y w)) ds else .ok (.bl false, ds)
  | _ => .bad) ds Q := rfl
def isB (d : D) (Q : Bool → Prop) (_ : Bx Q := Bx.mk) : Prop := match d with
  | .bl b => Q b
  | _ => False
theorem isB_bl {b : Bool} {Q : Bool → Prop} : isB (.bl b) Q = Q b := rfl
def cIf (c : Bool) (a b : Prop) (_ : Bx a := Bx.mk) (_ : Bx b := Bx.mk) : Prop := if c = true then a else b
theorem cIf_t {a b : Prop} : cIf true a b = a := rfl
theorem cIf_f {a b : Prop} : cIf false a b = b := rfl
theorem cIf_d {p a b : Prop} [Decidable p] : cIf (decide p) a b = ((p → a) ∧ (¬ p → b)) := by
  by_cases h : p <;> simp [cIf, h]
theorem cIf_n {c : Bool} {a b : Prop} : cIf (!c) a b = cIf c b a := by cases c <;> rfl
theorem w_ChainE {f g : D → D → Res D} {x y : D} {c : Opd} {ds : Ds} {Q : D → Ds → Prop} : wE (fun ds => (f x y).bind fun z => match z with
  | .bl k => if k = true then (c fun w => rEnd (g y w)) ds else .ok (.bl false, ds)
  | _ => .bad) ds Q = wR (f x y) fun z => isB z fun k => cIf k (wE (c fun w => rEnd (g y w)) ds Q) (Q (.bl false) ds) := by
  rw [wE_eq, wR_bind]
  refine wR_ext fun z => ?_
  cases z <;> try exact wR_bad
  rename_i b
  cases b
  · exact wR_ok
  · simp only [if_true, isB, cIf]; rw [wE_eq]
theorem w_If {t : BS} {a b : ES} {ds : Ds} {Q : D → Ds → Prop} : wE (rIf t a b) ds Q = wB t ds fun c ds1 => cIf c (wE a ds1 Q) (wE b ds1 Q) := by
  rw [wE_eq, wB_eq]; unfold rIf; rw [wR_bind]; refine wR_ext fun p => ?_; cases p with | mk c d => cases c <;> simp [cIf, wE_eq, wS_eq]
theorem w_And {a b : ES} {ds : Ds} {Q : D → Ds → Prop} : wE (rAnd a b) ds Q = wE a ds fun d ds1 => wR (tru d) fun c => cIf c (wE b ds1 Q) (Q d ds1) := by
  rw [wE_eq, wE_eq]; unfold rAnd; rw [wR_bind]; refine wR_ext fun p => ?_; rw [wR_bind]; refine wR_ext fun c => ?_; cases c <;> simp [cIf, wR_ok, wE_eq, wB_eq]
theorem w_Or {a b : ES} {ds : Ds} {Q : D → Ds → Prop} : wE (rOr a b) ds Q = wE a ds fun d ds1 => wR (tru d) fun c => cIf c (Q d ds1) (wE b ds1 Q) := by
  rw [wE_eq, wE_eq]; unfold rOr; rw [wR_bind]; refine wR_ext fun p => ?_; rw [wR_bind]; refine wR_ext fun c => ?_; cases c <;> simp [cIf, wR_ok, wE_eq, wB_eq]
theorem w_Tru {o : Opd} {ds : Ds} {Q : Bool → Ds → Prop} : wB (bTru o) ds Q = wE (o fun x => rEnd ((tru x).bind fun b => .ok (.bl b))) ds fun d ds1 => isB d fun b => Q b ds1 := by
  rw [wB_eq, wE_eq]; unfold bTru; rw [wR_bind]; refine wR_ext fun p => ?_; cases p with | mk d s => cases d <;> first | exact wR_bad | exact wR_ok
theorem w_Val {r : ES} {ds : Ds} {Q : Bool → Ds → Prop} : wB (bVal r) ds Q = wE r ds fun d ds1 => isB d fun b => Q b ds1 := by
  rw [wB_eq, wE_eq]; unfold bVal; rw [wR_bind]; refine wR_ext fun p => ?_; cases p with | mk d s => cases d <;> first | exact wR_bad | exact wR_ok
theorem w_BAnd {a b : BS} {ds : Ds} {Q : Bool → Ds → Prop} : wB (bAnd a b) ds Q = wB a ds fun c ds1 => cIf c (wB b ds1 Q) (Q false ds1) := by
  rw [wB_eq, wB_eq]; unfold bAnd; rw [wR_bind]; refine wR_ext fun p => ?_; cases p with | mk c d => cases c <;> simp [cIf, wR_ok, wE_eq, wB_eq]
theorem w_BOr {a b : BS} {ds : Ds} {Q : Bool → Ds → Prop} : wB (bOr a b) ds Q = wB a ds fun c ds1 => cIf c (Q true ds1) (wB b ds1 Q) := by
  rw [wB_eq, wB_eq]; unfold bOr; rw [wR_bind]; refine wR_ext fun p => ?_; cases p with | mk c d => cases c <;> simp [cIf, wR_ok, wE_eq, wB_eq]
theorem w_BNot {a : BS} {ds : Ds} {Q : Bool → Ds → Prop} : wB (bNot a) ds Q = wB a ds fun c ds1 => Q (!c) ds1 := by
  rw [wB_eq, wB_eq]; unfold bNot; rw [wR_bind]; exact wR_ext fun p => wR_ok
theorem w_BYes {ds : Ds} {Q : Bool → Ds → Prop} : wB bYes ds Q = Q true ds := by rw [wB_eq]; exact wR_ok
theorem w_Nil {ds : Ds} {Q : Fl → Ds → Prop} : wS sNil ds Q = Q .nx ds := by rw [wS_eq]; exact wR_ok
theorem w_Br {ds : Ds} {Q : Fl → Ds → Prop} : wS sBr ds Q = Q .br ds := by rw [wS_eq]; exact wR_ok
theorem w_Ct {ds : Ds} {Q : Fl → Ds → Prop} : wS sCt ds Q = Q .ct ds := by rw [wS_eq]; exact wR_ok
def gSeq (f : Fl) (a : Prop) (q : Fl → Prop) (_ : Bx a := Bx.mk) (_ : Bx q := Bx.mk) : Prop := match f with
  | .nx => a
  | f => q f
theorem g_nx {a : Prop} {q : Fl → Prop} : gSeq .nx a q = a := rfl
theorem g_br {a : Prop} {q : Fl → Prop} : gSeq .br a q = q .br := rfl
theorem g_ct {a : Prop} {q : Fl → Prop} : gSeq .ct a q = q .ct := rfl
theorem g_rt {d : D} {a : Prop} {q : Fl → Prop} : gSeq (.rt d) a q = q (.rt d) := rfl
theorem w_Seq {a b : SS} {ds : Ds} {Q : Fl → Ds → Prop} : wS (sSeq a b) ds Q = wS a ds fun f ds1 => gSeq f (wS b ds1 Q) fun f => Q f ds1 := by
  rw [wS_eq, wS_eq]; unfold sSeq; rw [wR_bind]; refine wR_ext fun p => ?_; cases p with | mk f d => cases f <;> simp [gSeq, wR_ok, wS_eq]
theorem w_SIf {t : BS} {a b : SS} {ds : Ds} {Q : Fl → Ds → Prop} : wS (sIf t a b) ds Q = wB t ds fun c ds1 => cIf c (wS a ds1 Q) (wS b ds1 Q) := by
  rw [wS_eq, wB_eq]; unfold sIf; rw [wR_bind]; refine wR_ext fun p => ?_; cases p with | mk c d => cases c <;> simp [cIf, wE_eq, wS_eq]
theorem w_Ret {r : ES} {ds : Ds} {Q : Fl → Ds → Prop} : wS (sRet r) ds Q = wE r ds fun d ds1 => Q (.rt d) ds1 := by
  rw [wS_eq, wE_eq]; unfold sRet; rw [wR_bind]; exact wR_ext fun p => wR_ok
theorem w_Drop {r : ES} {ds : Ds} {Q : Fl → Ds → Prop} : wS (sDrop r) ds Q = wE r ds fun d ds1 => Q .nx ds1 := by
  rw [wS_eq, wE_eq]; unfold sDrop; rw [wR_bind]; exact wR_ext fun p => wR_ok
theorem w_Set {g : GS} {r : ES} {ds : Ds} {Q : Fl → Ds → Prop} : wS (sSet g r) ds Q = wE r ds fun d ds1 => wR (g d ds1) fun ds2 => Q .nx ds2 := by
  rw [wS_eq, wE_eq]; unfold sSet; rw [wR_bind]; refine wR_ext fun p => ?_; rw [wR_bind]; exact wR_ext fun q => wR_ok
theorem g_Set {i : Nat} {d : D} {ds : Ds} {Q : Ds → Prop} : wR (gSet i d ds) Q = Q (ds.set i (.own d)) := wR_ok
theorem g_Tup1 {gs : List GS} {xs : List D} {ds : Ds} {Q : Ds → Prop} : wR (gTup' gs (.tup xs) ds) Q = wR (gAll gs xs ds) Q := rfl
theorem g_Tup2 {gs : List GS} {o : Bool} {xs : List D} {ds : Ds} {Q : Ds → Prop} : wR (gTup' gs (.lst o xs) ds) Q = (isFzs xs = true ∧ wR (gAll gs xs ds) Q) := wR_ite
theorem g_All0 {ds : Ds} {Q : Ds → Prop} : wR (gAll [] [] ds) Q = Q ds := wR_ok
theorem g_All1 {g : GS} {gs : List GS} {x : D} {xs : List D} {ds : Ds} {Q : Ds → Prop} : wR (gAll (g :: gs) (x :: xs) ds) Q = wR (g x ds) fun ds1 => wR (gAll gs xs ds1) Q := wR_bind
def isI (d : D) (Q : Int → Prop) (_ : Bx Q := Bx.mk) : Prop := match d with
  | .int j => Q j
  | _ => False
theorem isI_int {j : Int} {Q : Int → Prop} : isI (.int j) Q = Q j := rfl
def qItem (x : Option Slot) (i : Nat) (o : Opd) (d : D) (ds : Ds) (Q : Ds → Prop) (_ : Bx o := Bx.mk) (_ : Bx Q := Bx.mk) : Prop := match x with
  | some (.own (.lst true xs)) => wE (o fun y => rEnd (idxD xs y)) (ds.set i (.lk (.lst true xs))) fun z ds1 => match z with
      | .int j => Q (ds1.set i (.own (.lst true (xs.set j.toNat d))))
      | _ => False
  | _ => False
theorem g_Item {i : Nat} {o : Opd} {d : D} {ds : Ds} {Q : Ds → Prop} : wR (gItem i o d ds) Q = qItem ds[i]? i o d ds Q := by
  unfold gItem qItem; generalize ds[i]? = x; rcases x with _ | _ | d' | _
  · exact wR_bad
  · exact wR_bad
  · cases d' with
    | lst o xs =>
      cases o
      · exact wR_bad
      · dsimp only; rw [wR_bind, wE_eq]; refine wR_ext fun p => ?_; cases p with | mk z s => cases z <;> first | exact wR_ok | exact wR_bad
    | _ => exact wR_bad
  · exact wR_bad
theorem q_Item {i : Nat} {o : Opd} {d : D} {xs : List D} {ds : Ds} {Q : Ds → Prop} : qItem (some (.own (.lst true xs))) i o d ds Q = wE (o fun y => rEnd (idxD xs y)) (ds.set i (.lk (.lst true xs))) fun z ds1 => isI z fun j => Q (ds1.set i (.own (.lst true (xs.set j.toNat d)))) := rfl
end Vd
end
section
namespace Vd
open PySem L2
def wQ (rs : List ES) (ds : Ds) (Q : List D → Ds → Prop) (_ : Bx rs := Bx.mk) (_ : Bx Q := Bx.mk) : Prop := ∃ a s, rSeq rs ds = .ok (a, s) ∧ Q a s
theorem wQ_eq {e : List ES} {ds : Ds} {Q : List D → Ds → Prop} : wQ e ds Q = wR (rSeq e ds) fun p => Q p.1 p.2 := propext ⟨fun ⟨d, s, e, q⟩ => ⟨(d, s), e, q⟩, fun ⟨(d, s), e, q⟩ => ⟨d, s, e, q⟩⟩
theorem w_Q0 {ds : Ds} {Q : List D → Ds → Prop} : wQ [] ds Q = Q [] ds := by rw [wQ_eq]; exact wR_ok
theorem w_Q1 {r : ES} {rs : List ES} {ds : Ds} {Q : List D → Ds → Prop} : wQ (r :: rs) ds Q = wE r ds fun d ds1 => wQ rs ds1 fun xs ds2 => Q (d :: xs) ds2 := by
  rw [wQ_eq, wE_eq]; unfold rSeq; rw [wR_bind]; refine wR_ext fun p => ?_; rw [wR_bind, wQ_eq]; exact wR_ext fun q => wR_ok
theorem w_Lst {rs : List ES} {ds : Ds} {Q : D → Ds → Prop} : wE (rLst rs) ds Q = wQ rs ds fun xs ds1 => xs.length ≤ sizeLine ∧ Q (.lst true xs) ds1 := by
  rw [wE_eq, wQ_eq]; unfold rLst; rw [wR_bind]; refine wR_ext fun p => ?_; rw [wR_ite, wR_ok]
theorem w_Par {i j : Nat} {a b : ES} {ds : Ds} {Q : Fl → Ds → Prop} : wS (sPar i j [a, b]) ds Q = wE a ds fun x ds1 => wE b ds1 fun y ds2 => Q .nx ((ds2.set i (.own x)).set j (.own y)) := by
  rw [wS_eq, wE_eq]; unfold sPar rSeq rSeq rSeq; rw [wR_bind, wR_bind]; refine wR_ext fun p => ?_; rw [wR_bind, wR_bind, wE_eq]; refine wR_ext fun q => ?_; repeat (first | rw [wR_bind] | (refine Eq.trans wR_ok ?_))
  rfl
def gMu2 (x : Option Slot) (i : Nat) (f : List D → List D → Res (D × List D)) (args : List D) (ds : Ds) (Q : D → Ds → Prop) (_ : Bx Q := Bx.mk) : Prop := match x with
  | some (.own (.lst true xs)) => wR (f args xs) fun q => Q q.1 (ds.set i (.own (.lst true q.2)))
  | _ => False
def gMu1 (x : Option Slot) (i : Nat) (f : List D → List D → Res (D × List D)) (rs : List ES) (ds : Ds) (Q : D → Ds → Prop) (_ : Bx rs := Bx.mk) (_ : Bx Q := Bx.mk) : Prop := match x with
  | some (.own (.lst true _)) => wQ rs ds fun args ds1 => gMu2 ds1[i]? i f args ds1 Q
  | _ => False
theorem w_Mut {i : Nat} {f : List D → List D → Res (D × List D)} {rs : List ES} {ds : Ds} {Q : D → Ds → Prop} : wE (rMut i f rs) ds Q = gMu1 ds[i]? i f rs ds Q := by
  rw [wE_eq]; unfold rMut gMu1; generalize ds[i]? = x; rcases x with _ | _ | d' | _
  · exact wR_bad
  · exact wR_bad
  · cases d' with
    | lst o xs =>
      cases o
      · exact wR_bad
      · dsimp only; rw [wR_bind, wQ_eq]; refine wR_ext fun p => ?_
        unfold gMu2; generalize p.2[i]? = y; rcases y with _ | _ | d' | _
        · exact wR_bad
        · exact wR_bad
        · cases d' with
          | lst o xs =>
            cases o
            · exact wR_bad
            · dsimp only; rw [wR_bind]; exact wR_ext fun q => wR_ok
          | _ => exact wR_bad
        · exact wR_bad
    | _ => exact wR_bad
  · exact wR_bad
theorem g_Mu1 {i : Nat} {f : List D → List D → Res (D × List D)} {xs : List D} {rs : List ES} {ds : Ds} {Q : D → Ds → Prop} : gMu1 (some (.own (.lst true xs))) i f rs ds Q = wQ rs ds fun args ds1 => gMu2 ds1[i]? i f args ds1 Q := rfl
theorem g_Mu2 {i : Nat} {f : List D → List D → Res (D × List D)} {args xs : List D} {ds : Ds} {Q : D → Ds → Prop} : gMu2 (some (.own (.lst true xs))) i f args ds Q = wR (f args xs) fun q => Q q.1 (ds.set i (.own (.lst true q.2))) := rfl
theorem v_append {d : D} {xs : List D} {Q : D × List D → Prop} : wR (appendF [d] xs) Q = (xs.length < sizeLine ∧ Q (.non, xs ++ [d])) := by unfold appendF; rw [wR_ite, wR_ok]
def gEx2 (x : Option Slot) (i : Nat) (y : D) (ds : Ds) (Q : D → Ds → Prop) (_ : Bx Q := Bx.mk) : Prop := match x with
  | some (.own (.lst true xs)) => wR (extD y xs) fun zs => Q .non (ds.set i (.own (.lst true zs)))
  | _ => False
def kExt (i : Nat) (y : D) : ES := fun ds1 => match ds1[i]? with
    | some (.own (.lst true xs)) => (extD y xs).bind fun zs => .ok (.non, ds1.set i (.own (.lst true zs)))
    | _ => .bad
theorem k_Ext {i : Nat} {y : D} {ds : Ds} {Q : D → Ds → Prop} : wE (kExt i y) ds Q = gEx2 ds[i]? i y ds Q := by
  rw [wE_eq]; unfold kExt gEx2; generalize ds[i]? = x; rcases x with _ | _ | d' | _
  · exact wR_bad
  · exact wR_bad
  · cases d' with
    | lst o xs =>
      cases o
      · exact wR_bad
      · dsimp only; rw [wR_bind]; exact wR_ext fun q => wR_ok
    | _ => exact wR_bad
  · exact wR_bad
def gEx1 (x : Option Slot) (i : Nat) (o : Opd) (ds : Ds) (Q : D → Ds → Prop) (_ : Bx o := Bx.mk) (_ : Bx Q := Bx.mk) : Prop := match x with
  | some (.own (.lst true _)) => wE (o (kExt i)) ds Q
  | _ => False
theorem w_Ext {i : Nat} {o : Opd} {ds : Ds} {Q : D → Ds → Prop} : wE (rExt i o) ds Q = gEx1 ds[i]? i o ds Q := by
  rw [wE_eq]; unfold rExt gEx1; generalize ds[i]? = x; rcases x with _ | _ | d' | _
  · exact wR_bad
  · exact wR_bad
  · cases d' with
    | lst o xs =>
      cases o
      · exact wR_bad
      · exact wE_eq.symm
    | _ => exact wR_bad
  · exact wR_bad
theorem g_Ex1 {i : Nat} {o : Opd} {xs : List D} {ds : Ds} {Q : D → Ds → Prop} : gEx1 (some (.own (.lst true xs))) i o ds Q = wE (o (kExt i)) ds Q := rfl
theorem g_Ex2 {i : Nat} {y : D} {xs : List D} {ds : Ds} {Q : D → Ds → Prop} : gEx2 (some (.own (.lst true xs))) i y ds Q = wR (extD y xs) fun zs => Q .non (ds.set i (.own (.lst true zs))) := rfl
def kCall (C : CE) (f : Nat) (as : List CA) (xs : List D) : ES := fun ds => (asm as xs ds).bind fun p => (C f p.1).bind fun q => .ok (q.1, putm as q.2 p.2)
theorem w_Call {C : CE} {f : Nat} {as : List CA} {ds : Ds} {Q : D → Ds → Prop} : wE (rCall C f as) ds Q = wE (rArgs as (kCall C f as)) ds Q := rfl
theorem w_Args0 {k : List D → ES} {ds : Ds} {Q : D → Ds → Prop} : wE (rArgs [] k) ds Q = wE (k []) ds Q := rfl
theorem w_Args1 {o : Opd} {as : List CA} {k : List D → ES} {ds : Ds} {Q : D → Ds → Prop} : wE (rArgs (.vw o :: as) k) ds Q = wE (o fun x => rArgs as fun xs => k (x :: xs)) ds Q := rfl
def gAr (x : Option Slot) (as : List CA) (k : List D → ES) (ds : Ds) (Q : D → Ds → Prop) (_ : Bx as := Bx.mk) (_ : Bx k := Bx.mk) (_ : Bx Q := Bx.mk) : Prop := match x with
  | some (.own _) => wE (rArgs as k) ds Q
  | _ => False
theorem w_Args2 {i : Nat} {as : List CA} {k : List D → ES} {ds : Ds} {Q : D → Ds → Prop} : wE (rArgs (.mu i :: as) k) ds Q = gAr ds[i]? as k ds Q := by
  rw [wE_eq]; unfold rArgs gAr; generalize ds[i]? = x; rcases x with _ | _ | d' | _ <;> first | exact wR_bad | exact wE_eq.symm
theorem g_Ar {d : D} {as : List CA} {k : List D → ES} {ds : Ds} {Q : D → Ds → Prop} : gAr (some (.own d)) as k ds Q = wE (rArgs as k) ds Q := rfl
def wAs (as : List CA) (xs : List D) (ds : Ds) (Q : List D → Ds → Prop) (_ : Bx as := Bx.mk) (_ : Bx Q := Bx.mk) : Prop := wR (asm as xs ds) fun p => Q p.1 p.2
theorem k_Call {C : CE} {f : Nat} {as : List CA} {xs : List D} {ds : Ds} {Q : D → Ds → Prop} : wE (kCall C f as xs) ds Q = wAs as xs ds fun args ds1 => wR (C f args) fun q => Q q.1 (putm as q.2 ds1) := by
  rw [wE_eq]; unfold kCall wAs; rw [wR_bind]; refine wR_ext fun p => ?_; rw [wR_bind]; exact wR_ext fun q => wR_ok
theorem w_As0 {ds : Ds} {Q : List D → Ds → Prop} : wAs [] [] ds Q = Q [] ds := wR_ok
theorem w_As1 {o : Opd} {as : List CA} {x : D} {xs : List D} {ds : Ds} {Q : List D → Ds → Prop} : wAs (.vw o :: as) (x :: xs) ds Q = wAs as xs ds fun a s => Q (x :: a) s := by
  unfold wAs; conv => lhs; unfold asm
  rw [wR_bind]; exact wR_ext fun p => wR_ok
def gAs (x : Option Slot) (i : Nat) (as : List CA) (xs : List D) (ds : Ds) (Q : List D → Ds → Prop) (_ : Bx as := Bx.mk) (_ : Bx Q := Bx.mk) : Prop := match x with
  | some (.own d) => wAs as xs (ds.set i .no) fun a s => Q (d :: a) s
  | _ => False
theorem w_As2 {i : Nat} {as : List CA} {xs : List D} {ds : Ds} {Q : List D → Ds → Prop} : wAs (.mu i :: as) xs ds Q = gAs ds[i]? i as xs ds Q := by
  unfold wAs gAs; conv => lhs; unfold asm
  generalize ds[i]? = x; rcases x with _ | _ | d' | _ <;> first | exact wR_bad | skip
  dsimp only; rw [wR_bind]; unfold wAs; exact wR_ext fun p => wR_ok
theorem g_As {d : D} {i : Nat} {as : List CA} {xs : List D} {ds : Ds} {Q : List D → Ds → Prop} : gAs (some (.own d)) i as xs ds Q = wAs as xs (ds.set i .no) fun a s => Q (d :: a) s := rfl
theorem putm0 {os : List D} {ds : Ds} : putm [] os ds = ds := rfl
theorem putm1 {o : Opd} {as : List CA} {os : List D} {ds : Ds} : putm (.vw o :: as) os ds = putm as os ds := rfl
theorem putm2 {i : Nat} {as : List CA} {d : D} {os : List D} {ds : Ds} : putm (.mu i :: as) (d :: os) ds = putm as os (ds.set i (.own d)) := rfl
def wO (ms : List Bool) (ds : Ds) (Q : List D → Prop) (_ : Bx ms := Bx.mk) (_ : Bx Q := Bx.mk) : Prop := wR (outs ms ds) Q
theorem w_O0 {ds : Ds} {Q : List D → Prop} : wO [] ds Q = Q [] := by unfold wO; unfold outs; exact wR_ok
theorem w_O1 {ms : List Bool} {d : D} {ds : Ds} {Q : List D → Prop} : wO (true :: ms) (.own d :: ds) Q = wO ms ds fun os => Q (d :: os) := by
  unfold wO; conv => lhs; unfold outs
  rw [wR_bind]; exact wR_ext fun p => wR_ok
theorem w_O2 {ms : List Bool} {x : Slot} {ds : Ds} {Q : List D → Prop} : wO (false :: ms) (x :: ds) Q = wO ms ds Q := by unfold wO; conv => lhs; unfold outs
def qFn (f : Fl) (ms : List Bool) (ds : Ds) (Q : D × List D → Prop) (_ : Bx Q := Bx.mk) : Prop := match f with
  | .rt d => wO ms ds fun os => Q (d, os)
  | .nx => wO ms ds fun os => Q (.non, os)
  | _ => False
theorem q_rt {d : D} {ms : List Bool} {ds : Ds} {Q : D × List D → Prop} : qFn (.rt d) ms ds Q = wO ms ds fun os => Q (d, os) := rfl
theorem q_nx {ms : List Bool} {ds : Ds} {Q : D × List D → Prop} : qFn .nx ms ds Q = wO ms ds fun os => Q (.non, os) := rfl
theorem w_fn {n : Nat} {ms : List Bool} {b : SS} {args : List D} {Q : D × List D → Prop} : wR (fnRun n ms b args) Q = (args.length = ms.length ∧ wS b (slotsIn ms args ++ List.replicate (n - ms.length) .no) fun f ds => qFn f ms ds Q) := by
  unfold fnRun; rw [wR_ite, wR_bind, wS_eq]; congr 1; refine wR_ext fun p => ?_
  rcases p with ⟨f, ds⟩
  cases f <;> first | exact wR_bad | (show wR (Res.bind _ _) Q = wR _ _; rw [wR_bind]; exact wR_ext fun q => wR_ok)
theorem slots0 {ms : List Bool} : slotsIn ms [] = [] := by cases ms with | nil => rfl | cons m _ => cases m <;> rfl
theorem slots1 {ms : List Bool} {d : D} {ds : List D} : slotsIn (true :: ms) (d :: ds) = .own d :: slotsIn ms ds := rfl
theorem slots2 {ms : List Bool} {d : D} {ds : List D} : slotsIn (false :: ms) (d :: ds) = .lk d :: slotsIn ms ds := rfl
def aft (f : Fl) (a : Prop) (q : Prop) (r : D → Prop) (_ : Bx a := Bx.mk) (_ : Bx q := Bx.mk) (_ : Bx r := Bx.mk) : Prop := match f with
  | .nx => a
  | .ct => a
  | .br => q
  | .rt d => r d
theorem aft_nx {a q : Prop} {r : D → Prop} : aft .nx a q r = a := rfl
theorem aft_ct {a q : Prop} {r : D → Prop} : aft .ct a q r = a := rfl
theorem aft_br {a q : Prop} {r : D → Prop} : aft .br a q r = q := rfl
theorem aft_rt {d : D} {a q : Prop} {r : D → Prop} : aft (.rt d) a q r = r d := rfl
theorem w_loop (I : Nat → Ds → Prop) {g : GS} {b : SS} {Q : Fl → Ds → Prop} : ∀ {items : List D} {ds : Ds} {j : Nat}, I j ds →
    (∀ i x ds, items[i]? = some x → I (j + i) ds → wR (g x ds) fun ds1 => wS b ds1 fun f ds2 => aft f (I (j + i + 1) ds2) (Q .nx ds2) fun d => Q (.rt d) ds2) → (∀ ds, I (j + items.length) ds → Q .nx ds) → wS (loopF g b items) ds Q
  | [], ds, j, h, _, k => ⟨_, _, rfl, k ds h⟩
  | x :: xs, ds, j, h, st, k => by
    rw [wS_eq]
    show wR (Res.bind _ _) _
    rw [wR_bind]
    refine wR_mono (st 0 x ds rfl h) fun ds1 h1 => ?_
    rw [wR_bind]
    rw [wS_eq] at h1
    refine wR_mono h1 fun p h2 => ?_
    have go : I (j + 0 + 1) p.2 → wS (loopF g b xs) p.2 Q := fun h3 =>
      w_loop I (j := j + 1) h3 (fun i y ds e hi => by
        have := st (i + 1) y ds e (by rw [show j + (i + 1) = j + 1 + i by omega]; exact hi)
        rw [show j + (i + 1) = j + 1 + i by omega] at this
        exact this) fun ds hd => k ds (by rw [List.length_cons, show j + (xs.length + 1) = j + 1 + xs.length by omega]; exact hd)
    rcases p with ⟨f, ds2⟩
    cases f with
    | nx => have := go h2; rw [wS_eq] at this; exact this
    | ct => have := go h2; rw [wS_eq] at this; exact this
    | br => rw [wR_ok]; exact h2
    | rt d => rw [wR_ok]; exact h2
theorem w_wh (I : Nat → Ds → Prop) {c : BS} {b : SS} {Q : Fl → Ds → Prop} (st : ∀ n ds, I n ds → wB c ds fun t ds1 => cIf t (0 < n ∧ wS b ds1 fun f ds2 => aft f (I (n - 1) ds2) (Q .nx ds2) fun d => Q (.rt d) ds2) (Q .nx ds1)) :
    ∀ {m n : Nat} {ds : Ds}, n < m → I n ds → wS (wh c b m) ds Q
  | 0, n, ds, hn, _ => absurd hn (by omega)
  | m + 1, n, ds, hn, h => by
    rw [wS_eq]
    show wR (Res.bind _ _) _
    rw [wR_bind]
    have h1 := st n ds h
    rw [wB_eq] at h1
    refine wR_mono h1 fun p h2 => ?_
    rcases p with ⟨t, ds1⟩
    cases t with
    | false => show wR (.ok _) _; rw [wR_ok]; exact h2
    | true =>
      obtain ⟨h0, h2⟩ := h2
      show wR (Res.bind _ _) _
      rw [wR_bind]
      rw [wS_eq] at h2
      refine wR_mono h2 fun p h2 => ?_
      have go : I (n - 1) p.2 → wS (wh c b m) p.2 Q := fun h3 => w_wh I st (by omega) h3
      rcases p with ⟨f, ds2⟩
      cases f with
      | nx => have := go h2; rw [wS_eq] at this; exact this
      | ct => have := go h2; rw [wS_eq] at this; exact this
      | br => rw [wR_ok]; exact h2
      | rt d => rw [wR_ok]; exact h2
theorem w_while (I : Nat → Ds → Prop) {c : BS} {b : SS} {ds : Ds} {Q : Fl → Ds → Prop} (n : Nat) (hn : n < 10 ^ 40) (h : I n ds)
    (st : ∀ n ds, I n ds → wB c ds fun t ds1 => cIf t (0 < n ∧ wS b ds1 fun f ds2 => aft f (I (n - 1) ds2) (Q .nx ds2) fun d => Q (.rt d) ds2) (Q .nx ds1)) : wS (sWhile c b) ds Q := w_wh I st hn h
theorem w_sO0 {k : List D → SS} {ds : Ds} {Q : Fl → Ds → Prop} : wS (sOps [] k) ds Q = wS (k []) ds Q := rfl
theorem w_sO1 {o : OK} {os : List OK} {k : List D → SS} {ds : Ds} {Q : Fl → Ds → Prop} : wS (sOps (o :: os) k) ds Q = wS (o.s fun x => sOps os fun xs => k (x :: xs)) ds Q := rfl
theorem w_sv {r : ES} {k : D → SS} {ds : Ds} {Q : Fl → Ds → Prop} : wS ((OK.v r).s k) ds Q = wE r ds fun d ds1 => wS (k d.frz) ds1 Q := by
  rw [wS_eq, wE_eq]; show wR (Res.bind _ _) _ = _; rw [wR_bind]; exact wR_ext fun p => wS_eq.symm
def gSp (x : Option Slot) (i : Nat) (k : D → SS) (ds : Ds) (Q : Fl → Ds → Prop) (_ : Bx k := Bx.mk) (_ : Bx Q := Bx.mk) : Prop := match x with
  | some (.own d) => wS (k d) (ds.set i (.lk d)) fun z ds1 => Q z (relk i d ds1)
  | some (.lk d) => wS (k d) ds Q
  | _ => False
theorem w_sp {i : Nat} {k : D → SS} {ds : Ds} {Q : Fl → Ds → Prop} : wS ((OK.p i).s k) ds Q = gSp ds[i]? i k ds Q := by
  rw [wS_eq]; show wR (spp i k ds) _ = _; unfold spp gSp; generalize ds[i]? = x; rcases x with _ | _ | _ | _
  · exact wR_bad
  · exact wR_bad
  · dsimp only; rw [wR_bind, wS_eq]; exact wR_ext fun p => wR_ok
  · exact wS_eq.symm
theorem g_Sp1 {d : D} {i : Nat} {k : D → SS} {ds : Ds} {Q : Fl → Ds → Prop} : gSp (some (.own d)) i k ds Q = wS (k d) (ds.set i (.lk d)) fun z ds1 => Q z (relk i d ds1) := rfl
theorem g_Sp2 {d : D} {i : Nat} {k : D → SS} {ds : Ds} {Q : Fl → Ds → Prop} : gSp (some (.lk d)) i k ds Q = wS (k d) ds Q := rfl
def gSz (x : Option Slot) (i : Nat) (k : D → SS) (ds : Ds) (Q : Fl → Ds → Prop) (_ : Bx k := Bx.mk) (_ : Bx Q := Bx.mk) : Prop := match x with
  | some (.own d) => wS (k d.frz1) (ds.set i (.lk d.frz1)) fun z ds1 => Q z (relk i d.frz1 ds1)
  | some (.lk d) => d.isFz1 = true ∧ wS (k d) ds Q
  | _ => False
theorem w_sz {i : Nat} {k : D → SS} {ds : Ds} {Q : Fl → Ds → Prop} : wS ((OK.z i).s k) ds Q = gSz ds[i]? i k ds Q := by
  rw [wS_eq]; show wR (szz i k ds) _ = _; unfold szz gSz; generalize ds[i]? = x; rcases x with _ | _ | _ | _
  · exact wR_bad
  · exact wR_bad
  · dsimp only; rw [wR_bind, wS_eq]; exact wR_ext fun p => wR_ok
  · dsimp only; rw [wR_ite, wS_eq]
theorem g_Sz1 {d : D} {i : Nat} {k : D → SS} {ds : Ds} {Q : Fl → Ds → Prop} : gSz (some (.own d)) i k ds Q = wS (k d.frz1) (ds.set i (.lk d.frz1)) fun z ds1 => Q z (relk i d.frz1 ds1) := rfl
theorem g_Sz2 {d : D} {i : Nat} {k : D → SS} {ds : Ds} {Q : Fl → Ds → Prop} : gSz (some (.lk d)) i k ds Q = (d.isFz1 = true ∧ wS (k d) ds Q) := rfl
def kFor (f : List D → Res (List D)) (g : GS) (b : SS) (xs : List D) : SS := fun ds => (f xs).bind fun items => loopF g b items ds
theorem w_For {os : List OK} {f : List D → Res (List D)} {g : GS} {b : SS} {ds : Ds} {Q : Fl → Ds → Prop} : wS (sFor os f g b) ds Q = wS (sOps os (kFor f g b)) ds Q := rfl
theorem k_For {f : List D → Res (List D)} {g : GS} {b : SS} {xs : List D} {ds : Ds} {Q : Fl → Ds → Prop} : wS (kFor f g b xs) ds Q = wR (f xs) fun items => wS (loopF g b items) ds Q := by
  rw [wS_eq]; unfold kFor; rw [wR_bind]; exact wR_ext fun p => wS_eq.symm
def wL (vs : List Nat) (g : GS) (tt : BS) (elt : ES) (items : List D) (ds : Ds) (Q : List D → Ds → Prop) (_ : Bx g := Bx.mk) (_ : Bx tt := Bx.mk) (_ : Bx elt := Bx.mk) (_ : Bx Q := Bx.mk) : Prop := wR (lcF vs g tt elt items ds) fun p => Q p.1 p.2
def kLc (f : List D → Res (List D)) (vs : List Nat) (g : GS) (tt : BS) (elt : ES) (xs : List D) : ES := fun ds => (f xs).bind fun items => (lcF vs g tt elt items (dwipe ds vs)).bind fun p =>
  if p.1.length ≤ sizeLine then .ok (.lst true p.1, restore ds vs (dwipe p.2 vs)) else .bad
theorem w_Lc {os : List OK} {f : List D → Res (List D)} {vs : List Nat} {g : GS} {tt : BS} {elt : ES} {ds : Ds} {Q : D → Ds → Prop} : wE (rLc os f vs g tt elt) ds Q = wE (eOps os (kLc f vs g tt elt)) ds Q := rfl
theorem w_eO0 {k : List D → ES} {ds : Ds} {Q : D → Ds → Prop} : wE (eOps [] k) ds Q = wE (k []) ds Q := rfl
theorem w_eO1 {o : OK} {os : List OK} {k : List D → ES} {ds : Ds} {Q : D → Ds → Prop} : wE (eOps (o :: os) k) ds Q = wE (o.e fun x => eOps os fun xs => k (x :: xs)) ds Q := rfl
theorem w_ev {r : ES} {k : D → ES} {ds : Ds} {Q : D → Ds → Prop} : wE ((OK.v r).e k) ds Q = wE (ov r k) ds Q := rfl
theorem w_ep {i : Nat} {k : D → ES} {ds : Ds} {Q : D → Ds → Prop} : wE ((OK.p i).e k) ds Q = wE (op i k) ds Q := rfl
theorem w_ez {i : Nat} {k : D → ES} {ds : Ds} {Q : D → Ds → Prop} : wE ((OK.z i).e k) ds Q = wE (oz i k) ds Q := rfl
theorem k_Lc {f : List D → Res (List D)} {vs : List Nat} {g : GS} {tt : BS} {elt : ES} {xs : List D} {ds : Ds} {Q : D → Ds → Prop} : wE (kLc f vs g tt elt xs) ds Q =
    wR (f xs) fun items => wL vs g tt elt items (dwipe ds vs) fun out ds1 => out.length ≤ sizeLine ∧ Q (.lst true out) (restore ds vs (dwipe ds1 vs)) := by
  rw [wE_eq]; unfold kLc wL; rw [wR_bind]; refine wR_ext fun p => ?_; rw [wR_bind]; refine wR_ext fun q => ?_; rw [wR_ite, wR_ok]
theorem w_lc' (I : Nat → List D → Ds → Prop) {vs : List Nat} {g : GS} {tt : BS} {elt : ES} {Q : List D → Ds → Prop} : ∀ {items : List D} {ds : Ds} {j : Nat} {pre : List D}, I j pre ds →
    (∀ i x ds out, items[i]? = some x → I (j + i) out ds → wR (g x (dwipe ds vs)) fun ds1 => wB tt ds1 fun c ds2 => cIf c (wE elt ds2 fun v ds3 => I (j + i + 1) (out ++ [v]) ds3) (I (j + i + 1) out ds2)) →
    (∀ out ds, I (j + items.length) out ds → Q out ds) → wR (lcF vs g tt elt items ds) fun p => Q (pre ++ p.1) p.2
  | [], ds, j, pre, h, _, k => by
    show wR (.ok _) _
    rw [wR_ok, List.append_nil]
    exact k _ _ h
  | x :: xs, ds, j, pre, h, st, k => by
    show wR (Res.bind _ _) _
    rw [wR_bind]
    refine wR_mono (st 0 x ds pre rfl h) fun ds1 h1 => ?_
    rw [wR_bind]
    rw [wB_eq] at h1
    have nxt : ∀ {o : List D} {s : Ds}, I (j + 0 + 1) o s → wR (lcF vs g tt elt xs s) fun p => Q (o ++ p.1) p.2 := fun {o s} h3 =>
      w_lc' I (j := j + 1) h3 (fun i y ds out e hi => by
        have := st (i + 1) y ds out e (by rw [show j + (i + 1) = j + 1 + i by omega]; exact hi)
        rw [show j + (i + 1) = j + 1 + i by omega] at this
        exact this) fun out ds hd => k out ds (by rw [List.length_cons, show j + (xs.length + 1) = j + 1 + xs.length by omega]; exact hd)
    refine wR_mono h1 fun p h2 => ?_
    rcases p with ⟨c, ds2⟩
    cases c with
    | false => exact nxt h2
    | true =>
      have h3 : wE elt ds2 fun v ds3 => I (j + 0 + 1) (pre ++ [v]) ds3 := h2
      rw [wE_eq] at h3
      show wR (Res.bind _ _) _
      rw [wR_bind]
      refine wR_mono h3 fun q h4 => ?_
      rw [wR_bind]
      refine wR_mono (nxt h4) fun r hr => ?_
      rw [wR_ok]
      rw [List.append_assoc] at hr
      exact hr
theorem w_lc (I : Nat → List D → Ds → Prop) {vs : List Nat} {g : GS} {tt : BS} {elt : ES} {Q : List D → Ds → Prop} {items : List D} {ds : Ds} (h : I 0 [] ds)
    (st : ∀ i x ds out, items[i]? = some x → I i out ds → wR (g x (dwipe ds vs)) fun ds1 => wB tt ds1 fun c ds2 => cIf c (wE elt ds2 fun v ds3 => I (i + 1) (out ++ [v]) ds3) (I (i + 1) out ds2))
    (k : ∀ out ds, I items.length out ds → Q out ds) : wL vs g tt elt items ds Q :=
  w_lc' I (j := 0) h (fun i x ds out e hi => by rw [Nat.zero_add] at hi ⊢; exact st i x ds out e hi) fun out ds hd => k out ds (by rw [Nat.zero_add] at hd; exact hd)
theorem w_map (h : D → D) (p : D → Bool) (s0 : Ds) {vs : List Nat} {g : GS} {tt : BS} {elt : ES} {Q : List D → Ds → Prop} {items : List D} {ds : Ds} (e : dwipe ds vs = s0)
    (st : ∀ x ∈ items, wR (g x s0) fun ds1 => wB tt ds1 fun c ds2 => c = p x ∧ cIf c (wE elt ds2 fun v ds3 => v = h x ∧ dwipe ds3 vs = s0) (dwipe ds2 vs = s0))
    (k : ∀ ds, dwipe ds vs = s0 → Q ((items.filter p).map h) ds) : wL vs g tt elt items ds Q := by
  refine w_lc (fun i out ds => out = ((items.take i).filter p).map h ∧ dwipe ds vs = s0) ⟨rfl, e⟩ (fun i x ds out ex hi => ?_) fun out ds hd => ?_
  · obtain ⟨rfl, e⟩ := hi
    rw [e]
    have hx : x ∈ items := List.mem_of_getElem? ex
    have tk : items.take (i + 1) = items.take i ++ [x] := by rw [List.take_add_one, ex]; rfl
    refine wR_mono (st x hx) fun ds1 h1 => ?_
    rw [wB_eq] at h1 ⊢
    refine wR_mono h1 fun q h2 => ?_
    rcases q with ⟨c, ds2⟩
    obtain ⟨hc, h2⟩ := h2
    cases c with
    | false =>
      refine ⟨?_, h2⟩
      rw [tk, List.filter_append]
      simp [← hc]
    | true =>
      have h3 : wE elt ds2 fun v ds3 => v = h x ∧ dwipe ds3 vs = s0 := h2
      show wE _ _ _
      rw [wE_eq] at h3 ⊢
      refine wR_mono h3 fun q h4 => ⟨?_, h4.2⟩
      rw [tk, List.filter_append]
      simp [← hc, h4.1]
  · obtain ⟨rfl, e⟩ := hd
    rw [List.take_length]
    exact k ds e
theorem v_add {i j : Int} {Q : D → Prop} : wR (addD (.int i) (.int j)) Q = Q (.int (i + j)) := wR_ok
theorem v_addL {o p : Bool} {xs ys : List D} {Q : D → Prop} : wR (addD (.lst o xs) (.lst p ys)) Q = ((isFzs xs && isFzs ys && decide (xs.length + ys.length ≤ sizeLine)) = true ∧ Q (.lst true (xs ++ ys))) := by
  show wR (ite _ _ _) Q = _; rw [wR_ite, wR_ok]
theorem v_addT {xs ys : List D} {Q : D → Prop} : wR (addD (.tup xs) (.tup ys)) Q = (xs.length + ys.length ≤ sizeLine ∧ Q (.tup (xs ++ ys))) := by
  show wR (ite _ _ _) Q = _; rw [wR_ite, wR_ok]
theorem v_sub {i j : Int} {Q : D → Prop} : wR (subD (.int i) (.int j)) Q = Q (.int (i - j)) := wR_ok
theorem v_mul {i j : Int} {Q : D → Prop} : wR (mulD (.int i) (.int j)) Q = (mulOk i j = true ∧ Q (.int (i * j))) := by show wR (ite _ _ _) Q = _; rw [wR_ite, wR_ok]
theorem v_fdiv {i j : Int} {Q : D → Prop} : wR (fdivD (.int i) (.int j)) Q = (fdivOk i j = true ∧ Q (.int (i.fdiv j))) := by show wR (ite _ _ _) Q = _; rw [wR_ite, wR_ok]
theorem v_mod {i j : Int} {Q : D → Prop} : wR (modD (.int i) (.int j)) Q = (modOk i j = true ∧ Q (.int (i.fmod j))) := by show wR (ite _ _ _) Q = _; rw [wR_ite, wR_ok]
theorem v_pow {i j : Int} {Q : D → Prop} : wR (powD (.int i) (.int j)) Q = (powOk i j = true ∧ Q (.int (i ^ j.toNat))) := by show wR (ite _ _ _) Q = _; rw [wR_ite, wR_ok]
theorem v_neg {i : Int} {Q : D → Prop} : wR (negD (.int i)) Q = Q (.int (-i)) := wR_ok
theorem v_lt {i j : Int} {Q : D → Prop} : wR (ltD (.int i) (.int j)) Q = Q (.bl (decide (i < j))) := wR_ok
theorem v_le {i j : Int} {Q : D → Prop} : wR (leD (.int i) (.int j)) Q = Q (.bl (decide (i ≤ j))) := wR_ok
theorem v_gt {i j : Int} {Q : D → Prop} : wR (gtD (.int i) (.int j)) Q = Q (.bl (decide (j < i))) := wR_ok
theorem v_ge {i j : Int} {Q : D → Prop} : wR (geD (.int i) (.int j)) Q = Q (.bl (decide (j ≤ i))) := wR_ok
theorem shp_int {i : Int} : shp (.int i) = true := by
  simp [shp, SeqAt.shaped, D.py, PyData.canLay0, PyData.depth]
theorem shp_bl {i : Bool} : shp (.bl i) = true := by
  simp [shp, SeqAt.shaped, D.py, PyData.canLay0, PyData.depth]
theorem shp_non : shp .non = true := by
  simp [shp, SeqAt.shaped, D.py, PyData.canLay0, PyData.depth]
theorem v_eq {i j : Int} {Q : D → Prop} : wR (eqD (.int i) (.int j)) Q = Q (.bl (decide (i = j))) := by
  unfold eqD; rw [shp_int, shp_int]; show wR (.ok _) Q = _; rw [wR_ok]; rfl
theorem v_ne {i j : Int} {Q : D → Prop} : wR (neD (.int i) (.int j)) Q = Q (.bl (!decide (i = j))) := by
  unfold neD; rw [shp_int, shp_int]; show wR (.ok _) Q = _; rw [wR_ok]; rfl
theorem v_eqB {i j : Bool} {Q : D → Prop} : wR (eqD (.bl i) (.bl j)) Q = Q (.bl (i == j)) := by
  unfold eqD; rw [shp_bl, shp_bl]; show wR (.ok _) Q = _; rw [wR_ok]; rfl
def gIx (x : Option D) (Q : D → Prop) (_ : Bx Q := Bx.mk) : Prop := match x with
  | some z => Q z
  | none => False
theorem g_Ix {z : D} {Q : D → Prop} : gIx (some z) Q = Q z := rfl
theorem v_ixL {o : Bool} {xs : List D} {i : Int} {Q : D → Prop} : wR (itemD (.lst o xs) (.int i)) Q = gIx (atI xs i) fun z => z.isFz = true ∧ Q z := by
  unfold itemD gIx; dsimp only; generalize atI xs i = x; cases x
  · exact wR_bad
  · dsimp only; rw [wR_ite, wR_ok]
theorem v_ixT {xs : List D} {i : Int} {Q : D → Prop} : wR (itemD (.tup xs) (.int i)) Q = gIx (atI xs i) Q := by
  unfold itemD gIx; dsimp only; generalize atI xs i = x; cases x
  · exact wR_bad
  · exact wR_ok
theorem at_n {α : Type} {xs : List α} {n : Nat} : atI xs (n : Int) = xs[n]? := by
  unfold atI ixN; rw [if_pos (by omega)]
  by_cases h : n < xs.length
  · rw [if_pos (by omega)]; rfl
  · rw [if_neg (by omega), List.getElem?_eq_none (by omega)]; rfl
theorem ix_n {n m : Nat} (h : m < n) : ixN n (m : Int) = some m := by unfold ixN; rw [if_pos (by omega), if_pos (by omega)]; rfl
theorem at_of {α : Type} {xs : List α} {n : Nat} : atI xs (no_index (@OfNat.ofNat Int n instOfNat)) = xs[(OfNat.ofNat n : Nat)]? := at_n
theorem ix_of {m n : Nat} : ixN m (no_index (@OfNat.ofNat Int n instOfNat)) = if (OfNat.ofNat n : Nat) < m then some (OfNat.ofNat n : Nat) else none := by
  show ixN m (n : Int) = if n < m then some n else none
  by_cases h : n < m
  · rw [if_pos h, ix_n h]
  · unfold ixN; rw [if_neg h, if_pos (by omega), if_neg (by omega)]
theorem frzs_ints (cs : List Int) : frzs (cs.map .int) = cs.map .int := by
  induction cs with
  | nil => rfl
  | cons c cs ih => simp only [List.map_cons, frzs, D.frz, ih]
theorem isFzs_ints (cs : List Int) : isFzs (cs.map .int) = true := by
  induction cs with
  | nil => rfl
  | cons c cs ih => simp only [List.map_cons, isFzs, D.isFz, ih, Bool.and_self]
theorem at_in {α : Type} {xs : List α} {i : Int} (h0 : 0 ≤ i) (h1 : i < xs.length) : ∃ x, atI xs i = some x ∧ x ∈ xs := by
  have hx : i.toNat < xs.length := by omega
  refine ⟨xs[i.toNat], ?_, List.getElem_mem hx⟩
  have : atI xs ((i.toNat : Nat) : Int) = some xs[i.toNat] := by rw [at_n]; simp
  rwa [Int.toNat_of_nonneg h0] at this
theorem mulOk_l {i j : Int} (h1 : -18446744073709551616 < i) (h2 : i < 18446744073709551616) : mulOk i j = true := by
  unfold mulOk; rw [Bool.or_eq_true]; exact .inl (decide_eq_true (.inl ⟨by omega, by omega⟩))
theorem mulOk_r {i j : Int} (h1 : -18446744073709551616 < j) (h2 : j < 18446744073709551616) : mulOk i j = true := by
  unfold mulOk; rw [Bool.or_eq_true]; exact .inl (decide_eq_true (.inr ⟨by omega, by omega⟩))
theorem fdivOk_s {i j : Int} (h1 : 0 < j) (h2 : j < 1073741824) : fdivOk i j = true := by
  unfold fdivOk; rw [Bool.or_eq_true]; exact .inl (decide_eq_true ⟨by omega, by omega⟩)
theorem fdivOk_w {i j : Int} (h1 : 0 < j) (h2 : j < 2 ^ 8000) : fdivOk i j = true := by
  unfold fdivOk
  rw [Bool.or_eq_true]
  refine .inr (decide_eq_true ⟨h1, ?_⟩)
  have : j.natAbs < 2 ^ 9000 := by
    have : (2 : Int) ^ 8000 ≤ 2 ^ 9000 := by decide +kernel
    have e : ((2 ^ 9000 : Nat) : Int) = 2 ^ 9000 := by norm_cast
    omega
  exact (Nat.log2_lt (by omega)).mpr this
theorem modOk_p {i j : Int} (h : 0 < j) : modOk i j = true := decide_eq_true (by omega)
theorem powOk_s {i j : Int} (h1 : 0 ≤ j) (h2 : j ≤ 1000000) (h3 : -18446744073709551616 < i) (h4 : i < 18446744073709551616) : powOk i j = true := decide_eq_true ⟨h1, h2, by omega⟩
theorem cIf_split {p a b : Prop} [Decidable p] (h : p → a) (k : ¬ p → b) : cIf (decide p) a b := by
  rw [cIf_d]; exact ⟨h, k⟩
theorem cIf_neg {p a b : Prop} [Decidable p] (h : ¬ p) (k : b) : cIf (decide p) a b := by rw [cIf_d]; exact ⟨fun z => absurd z h, fun _ => k⟩
theorem gIx_of {x : Option D} {z : D} {Q : D → Prop} (e : x = some z) (h : Q z) : gIx x Q := by subst e; exact h
theorem at_ints {cs : List Int} {i : Int} (h0 : 0 ≤ i) (h1 : i < cs.length) : ∃ c, atI (cs.map D.int) i = some (.int c) ∧ c ∈ cs := by
  obtain ⟨x, e, m⟩ := at_in (xs := cs.map D.int) h0 (by simpa using h1)
  obtain ⟨c, hc, rfl⟩ := List.mem_map.mp m
  exact ⟨c, e, hc⟩
theorem fmod_lo {a b : Int} (h : 0 < b) : 0 ≤ a.fmod b := Int.fmod_nonneg_of_pos a h
theorem fmod_hi {a b : Int} (h : 0 < b) : a.fmod b < b := Int.fmod_lt_of_pos a h
theorem fdiv_lo {a b : Int} (h : 0 ≤ a) (k : 0 ≤ b) : 0 ≤ a.fdiv b := Int.fdiv_nonneg h k
theorem cast_of {n : Nat} : ((no_index (OfNat.ofNat n : Nat) : Nat) : Int) = (OfNat.ofNat n : Int) := rfl
theorem blsD_map {α : Type} (f : α → Bool) : ∀ l : List α, blsD (l.map fun x => .bl (f x)) = some (l.map f)
  | [] => rfl
  | x :: l => by simp only [List.map_cons, blsD, blsD_map f l, Option.map_some]
theorem frzs_bls {α : Type} (f : α → Bool) : ∀ l : List α, frzs (l.map fun x => .bl (f x)) = l.map fun x => .bl (f x)
  | [] => rfl
  | x :: l => by simp only [List.map_cons, frzs, D.frz, frzs_bls f l]
theorem v_anyB {α : Type} {o : Bool} {f : α → Bool} {l : List α} {Q : D → Prop} : wR (anyD [.lst o (l.map fun x => .bl (f x))]) Q = Q (.bl (l.any f)) := by
  unfold anyD; dsimp only; rw [blsD_map]; dsimp only; rw [wR_ok, List.any_map]; rfl
theorem v_allB {α : Type} {o : Bool} {f : α → Bool} {l : List α} {Q : D → Prop} : wR (allD [.lst o (l.map fun x => .bl (f x))]) Q = Q (.bl (l.all f)) := by
  unfold allD; dsimp only; rw [blsD_map]; dsimp only; rw [wR_ok, List.all_map]; rfl
def gX (x : Option Nat) (Q : Nat → Prop) (_ : Bx Q := Bx.mk) : Prop := match x with
  | some z => Q z
  | none => False
theorem g_X {z : Nat} {Q : Nat → Prop} : gX (some z) Q = Q z := rfl
theorem v_idx {xs : List D} {i : Int} {Q : D → Prop} : wR (idxD xs (.int i)) Q = gX (ixN xs.length i) fun j => Q (.int (j : Nat)) := by
  unfold idxD gX; dsimp only; generalize ixN xs.length i = x; cases x
  · exact wR_bad
  · exact wR_ok
theorem v_lenL {o : Bool} {xs : List D} {Q : D → Prop} : wR (lenD [.lst o xs]) Q = Q (.int xs.length) := wR_ok
theorem v_lenT {xs : List D} {Q : D → Prop} : wR (lenD [.tup xs]) Q = Q (.int xs.length) := wR_ok
theorem v_abs {i : Int} {Q : D → Prop} : wR (absD [.int i]) Q = Q (.int (if i < 0 then -i else i)) := wR_ok
theorem v_max {i j : Int} {Q : D → Prop} : wR (max2D [.int i, .int j]) Q = Q (.int (if j > i then j else i)) := wR_ok
theorem v_min {i j : Int} {Q : D → Prop} : wR (min2D [.int i, .int j]) Q = Q (.int (if j < i then j else i)) := wR_ok
theorem v_tup {xs : List D} {Q : D → Prop} : wR (tupD xs) Q = ((isFzs xs && decide (xs.length ≤ sizeLine)) = true ∧ Q (.tup xs)) := by unfold tupD; rw [wR_ite, wR_ok]
theorem v_list {o : Bool} {xs : List D} {Q : D → Prop} : wR (listD' [.lst o xs]) Q = (isFzs xs = true ∧ Q (.lst true xs)) := by show wR (ite _ _ _) Q = _; rw [wR_ite, wR_ok]
theorem v_listT {xs : List D} {Q : D → Prop} : wR (listD' [.tup xs]) Q = (isFzs xs = true ∧ Q (.lst true xs)) := by show wR (ite _ _ _) Q = _; rw [wR_ite, wR_ok]
theorem v_tuple {o : Bool} {xs : List D} {Q : D → Prop} : wR (tupleD' [.lst o xs]) Q = (isFzs xs = true ∧ Q (.tup xs)) := by show wR (ite _ _ _) Q = _; rw [wR_ite, wR_ok]
theorem v_tupleT {xs : List D} {Q : D → Prop} : wR (tupleD' [.tup xs]) Q = Q (.tup xs) := wR_ok
theorem v_slL {o : Bool} {xs : List D} {l h : Option Int} {Q : D → Prop} : wR (sliceD (.lst o xs) l h) Q = (isFzs xs = true ∧ Q (.lst true (cutL xs l h))) := by show wR (ite _ _ _) Q = _; rw [wR_ite, wR_ok]
theorem v_slT {xs : List D} {l h : Option Int} {Q : D → Prop} : wR (sliceD (.tup xs) l h) Q = Q (.tup (cutL xs l h)) := wR_ok
theorem v_truB {b : Bool} {Q : Bool → Prop} : wR (tru (.bl b)) Q = Q b := wR_ok
theorem v_truI {i : Int} {Q : Bool → Prop} : wR (tru (.int i)) Q = Q (i != 0) := wR_ok
theorem v_truT {xs : List D} {Q : Bool → Prop} : wR (tru (.tup xs)) Q = Q (!xs.isEmpty) := wR_ok
theorem v_truL {o : Bool} {xs : List D} {Q : Bool → Prop} : wR (tru (.lst o xs)) Q = Q (!xs.isEmpty) := wR_ok
theorem v_truN {Q : Bool → Prop} : wR (tru .non) Q = Q false := wR_ok
theorem v_itL {o : Bool} {xs : List D} {Q : List D → Prop} : wR (itemsD [.lst o xs]) Q = (isFzs xs = true ∧ Q xs) := by show wR (ite _ _ _) Q = _; rw [wR_ite, wR_ok]
theorem v_itT {xs : List D} {Q : List D → Prop} : wR (itemsD [.tup xs]) Q = (isFzs xs = true ∧ Q xs) := by show wR (ite _ _ _) Q = _; rw [wR_ite, wR_ok]
theorem v_r1 {j : Int} {Q : List D → Prop} : wR (range1D [.int j]) Q = ((j < 2 ^ 62 ∧ -(2 ^ 62) ≤ j) ∧ Q (rangeL 0 j.toNat)) := by show wR (ite _ _ _) Q = _; rw [wR_ite, wR_ok]
theorem v_r2 {i j : Int} {Q : List D → Prop} : wR (range2D [.int i, .int j]) Q = ((-(2 ^ 62) ≤ i ∧ i < 2 ^ 62 ∧ -(2 ^ 62) ≤ j ∧ j < 2 ^ 62) ∧ Q (rangeL i (j - i).toNat)) := by show wR (ite _ _ _) Q = _; rw [wR_ite, wR_ok]
theorem v_isB {a b : Bool} {Q : D → Prop} : wR (isD (.bl a) (.bl b)) Q = Q (.bl (decide (a = b))) := wR_ok
theorem v_isN {d : D} {Q : D → Prop} : wR (isD d .non) Q = Q (.bl d.isNon) := by cases d <;> exact wR_ok
theorem v_isntN {d : D} {Q : D → Prop} : wR (isntD d .non) Q = Q (.bl (!d.isNon)) := by cases d <;> exact wR_ok
theorem c_isIntDN : isIntD .non = false := rfl
theorem c_isIntDB {b : Bool} : isIntD (.bl b) = true := rfl
theorem c_isIntDI {i : Int} : isIntD (.int i) = true := rfl
theorem c_isIntDS {s : PySem.Str} : isIntD (.str s) = false := rfl
theorem c_isIntDT {xs : List D} : isIntD (.tup xs) = false := rfl
theorem c_isIntDL {o : Bool} {xs : List D} : isIntD (.lst o xs) = false := rfl
theorem c_isBoolDN : isBoolD .non = false := rfl
theorem c_isBoolDB {b : Bool} : isBoolD (.bl b) = true := rfl
theorem c_isBoolDI {i : Int} : isBoolD (.int i) = false := rfl
theorem c_isBoolDS {s : PySem.Str} : isBoolD (.str s) = false := rfl
theorem c_isBoolDT {xs : List D} : isBoolD (.tup xs) = false := rfl
theorem c_isBoolDL {o : Bool} {xs : List D} : isBoolD (.lst o xs) = false := rfl
theorem c_isStrDN : isStrD .non = false := rfl
theorem c_isStrDB {b : Bool} : isStrD (.bl b) = false := rfl
theorem c_isStrDI {i : Int} : isStrD (.int i) = false := rfl
theorem c_isStrDS {s : PySem.Str} : isStrD (.str s) = true := rfl
theorem c_isStrDT {xs : List D} : isStrD (.tup xs) = false := rfl
theorem c_isStrDL {o : Bool} {xs : List D} : isStrD (.lst o xs) = false := rfl
theorem c_isTupDN : isTupD .non = false := rfl
theorem c_isTupDB {b : Bool} : isTupD (.bl b) = false := rfl
theorem c_isTupDI {i : Int} : isTupD (.int i) = false := rfl
theorem c_isTupDS {s : PySem.Str} : isTupD (.str s) = false := rfl
theorem c_isTupDT {xs : List D} : isTupD (.tup xs) = true := rfl
theorem c_isTupDL {o : Bool} {xs : List D} : isTupD (.lst o xs) = false := rfl
theorem c_isLstDN : isLstD .non = false := rfl
theorem c_isLstDB {b : Bool} : isLstD (.bl b) = false := rfl
theorem c_isLstDI {i : Int} : isLstD (.int i) = false := rfl
theorem c_isLstDS {s : PySem.Str} : isLstD (.str s) = false := rfl
theorem c_isLstDT {xs : List D} : isLstD (.tup xs) = false := rfl
theorem c_isLstDL {o : Bool} {xs : List D} : isLstD (.lst o xs) = true := rfl
theorem c_D_isNonN : D.isNon .non = true := rfl
theorem c_D_isNonB {b : Bool} : D.isNon (.bl b) = false := rfl
theorem c_D_isNonI {i : Int} : D.isNon (.int i) = false := rfl
theorem c_D_isNonS {s : PySem.Str} : D.isNon (.str s) = false := rfl
theorem c_D_isNonT {xs : List D} : D.isNon (.tup xs) = false := rfl
theorem c_D_isNonL {o : Bool} {xs : List D} : D.isNon (.lst o xs) = false := rfl
theorem c_frz1N : D.frz1 .non = .non := rfl
theorem c_isFz1N : D.isFz1 .non = true := rfl
theorem c_frz1B {b : Bool} : D.frz1 (.bl b) = (.bl b) := rfl
theorem c_isFz1B {b : Bool} : D.isFz1 (.bl b) = true := rfl
theorem c_frz1I {i : Int} : D.frz1 (.int i) = (.int i) := rfl
theorem c_isFz1I {i : Int} : D.isFz1 (.int i) = true := rfl
theorem c_frz1S {s : PySem.Str} : D.frz1 (.str s) = (.str s) := rfl
theorem c_isFz1S {s : PySem.Str} : D.isFz1 (.str s) = true := rfl
theorem c_frz1T {xs : List D} : D.frz1 (.tup xs) = (.tup xs) := rfl
theorem c_isFz1T {xs : List D} : D.isFz1 (.tup xs) = true := rfl
theorem c_frz1L {o : Bool} {xs : List D} : D.frz1 (.lst o xs) = .lst o (frzs xs) := rfl
theorem c_isFz1L {o : Bool} {xs : List D} : D.isFz1 (.lst o xs) = isFzs xs := rfl
theorem filt_yes {α : Type} (l : List α) : (l.filter fun _ => true) = l := List.filter_eq_self.mpr fun _ _ => rfl
theorem small_le {n : Nat} (h : n ≤ 16777216) : (n ≤ sizeLine) = True := eq_true h
theorem small_lt {n : Nat} (h : n < 16777216) : (n < sizeLine) = True := eq_true h
theorem frz1_of {d : D} (h : d.isFz = true) : d.frz1 = d := by
  cases d with
  | lst o xs =>
    simp only [D.isFz, Bool.and_eq_true] at h
    simp only [D.frz1, frzs_of h.2]
  | _ => rfl
theorem cutL_map {α β : Type} (f : α → β) (l : List α) (a b : Option Int) : cutL (l.map f) a b = (cutL l a b).map f := by
  unfold cutL; simp only [List.length_map, List.map_drop, List.map_take]
theorem wR_get {α : Type} {r : Res α} {v : α} (h : wR r fun q => q = v) : r = .ok v := by
  obtain ⟨a, e, rfl⟩ := h
  exact e
theorem rangeL_get {lo : Int} {n i : Nat} {x : D} (h : (rangeL lo n)[i]? = some x) : i < n ∧ x = .int (lo + i) := by
  unfold rangeL at h
  rw [List.getElem?_map] at h
  by_cases hi : i < n
  · rw [List.getElem?_range hi] at h
    cases h
    exact ⟨hi, rfl⟩
  · rw [List.getElem?_eq_none (by simpa using hi)] at h
    cases h
end Vd
end
section
namespace Vd
open PySem L2
local macro_rules | `(tactic| and_intros) => `(tactic| simp only [wR_ok, wR_bind, w_C, w_Var, g_Var1, g_Var2, w_Mv, g_Mv1, g_Mv2, w_End, w_ov, w_op, g_Op1, g_Op2, w_oz, g_Oz1, g_Oz2, w_1, w_2, w_Not, w_Isi, w_Isi2, w_Ops0, w_Ops1, w_Tup, w_N, w_Sl, w_noPart, w_aPart, k_Part, w_Chain, isB_bl, cIf_t, cIf_f, cIf_n, w_ChainE, w_If, w_And, w_Or, w_Tru, w_Val, w_BAnd, w_BOr, w_BNot, w_BYes, w_Nil, w_Br, w_Ct, g_nx, g_br, g_ct, g_rt, w_Seq, w_SIf, w_Ret, w_Drop, w_Set, g_Set, g_Tup1, g_Tup2, g_All0, g_All1, isI_int, g_Item, q_Item, w_Q0, w_Q1, w_Lst, w_Par, w_Mut, g_Mu1, g_Mu2, v_append, k_Ext, w_Ext, g_Ex1, g_Ex2, w_Call, w_Args0, w_Args1, w_Args2, g_Ar, k_Call, w_As0, w_As1, w_As2, g_As, putm0, putm1, putm2, w_O0, w_O1, w_O2, q_rt, q_nx, w_fn, slots0, slots1, slots2, aft_nx, aft_ct, aft_br, aft_rt, w_sO0, w_sO1, w_sv, w_sp, g_Sp1, g_Sp2, w_sz, g_Sz1, g_Sz2, w_For, k_For, w_Lc, w_eO0, w_eO1, w_ev, w_ep, w_ez, k_Lc, v_add, v_addL, v_addT, v_sub, v_mul, v_fdiv, v_mod, v_pow, v_neg, v_lt, v_le, v_gt, v_ge, shp_int, shp_bl, shp_non, v_eq, v_ne, v_eqB, g_Ix, v_ixL, v_ixT, g_X, v_idx, v_lenL, v_lenT, v_abs, v_max, v_min, v_tup, v_list, v_listT, v_tuple, v_tupleT, v_slL, v_slT, v_truB, v_truI, v_truT, v_truL, v_truN, v_itL, v_itT, v_r1, v_r2, v_isB, v_isN, v_isntN, List.getElem?_cons_zero, List.getElem?_cons_succ, List.set_cons_zero, List.set_cons_succ, List.length_cons, List.length_nil, List.cons_append, List.nil_append, List.append_nil, List.replicate_succ, List.replicate_zero, D.frz, frzs, D.isFz, isFzs, dwipe, restore, relk, Bool.and_true, Bool.true_and, Bool.and_false, Bool.false_and, Bool.or_true, Bool.true_or, Bool.or_false, Bool.false_or, Bool.not_true, Bool.not_false, and_true, true_and, at_of, ix_of, frzs_ints, isFzs_ints, List.length_map, Int.toNat_natCast, ↓reduceIte, Nat.reduceAdd, Nat.reduceSub, Nat.reduceLT, Nat.reduceLeDiff, Int.reduceLT, Int.reduceLE, Int.reduceEq, Int.reduceAdd, Int.reduceSub, Int.reduceMul, Int.reduceNeg, Int.reduceToNat, Int.reducePow, Int.reduceBNe, Int.reduceBEq, reduceCtorEq, mulOk_l, mulOk_r, fdivOk_s, modOk_p, powOk_s, cast_of, small_le, small_lt, filt_yes, frzs_bls, v_anyB, v_allB, cutL_map, c_isIntDN, c_isIntDB, c_isIntDI, c_isIntDS, c_isIntDT, c_isIntDL, c_isBoolDN, c_isBoolDB, c_isBoolDI, c_isBoolDS, c_isBoolDT, c_isBoolDL, c_isStrDN, c_isStrDB, c_isStrDI, c_isStrDS, c_isStrDT, c_isStrDL, c_isTupDN, c_isTupDB, c_isTupDI, c_isTupDS, c_isTupDT, c_isTupDL, c_isLstDN, c_isLstDB, c_isLstDI, c_isLstDS, c_isLstDT, c_isLstDL, c_D_isNonN, c_D_isNonB, c_D_isNonI, c_D_isNonS, c_D_isNonT, c_D_isNonL, c_frz1N, c_isFz1N, c_frz1B, c_isFz1B, c_frz1I, c_isFz1I, c_frz1S, c_isFz1S, c_frz1T, c_isFz1T, c_frz1L, c_isFz1L, decide_true, decide_false, Bool.and_self])
local macro_rules | `(tactic| nofun) => `(tactic| simp only [wR_ok, wR_bind, w_C, w_Var, g_Var1, g_Var2, w_Mv, g_Mv1, g_Mv2, w_End, w_ov, w_op, g_Op1, g_Op2, w_oz, g_Oz1, g_Oz2, w_1, w_2, w_Not, w_Isi, w_Isi2, w_Ops0, w_Ops1, w_Tup, w_N, w_Sl, w_noPart, w_aPart, k_Part, w_Chain, isB_bl, cIf_t, cIf_f, cIf_n, w_ChainE, w_If, w_And, w_Or, w_Tru, w_Val, w_BAnd, w_BOr, w_BNot, w_BYes, w_Nil, w_Br, w_Ct, g_nx, g_br, g_ct, g_rt, w_Seq, w_SIf, w_Ret, w_Drop, w_Set, g_Set, g_Tup1, g_Tup2, g_All0, g_All1, isI_int, g_Item, q_Item, w_Q0, w_Q1, w_Lst, w_Par, w_Mut, g_Mu1, g_Mu2, v_append, k_Ext, w_Ext, g_Ex1, g_Ex2, w_Call, w_Args0, w_Args1, w_Args2, g_Ar, k_Call, w_As0, w_As1, w_As2, g_As, putm0, putm1, putm2, w_O0, w_O1, w_O2, q_rt, q_nx, w_fn, slots0, slots1, slots2, aft_nx, aft_ct, aft_br, aft_rt, w_sO0, w_sO1, w_sv, w_sp, g_Sp1, g_Sp2, w_sz, g_Sz1, g_Sz2, w_For, k_For, w_Lc, w_eO0, w_eO1, w_ev, w_ep, w_ez, k_Lc, v_add, v_addL, v_addT, v_sub, v_mul, v_fdiv, v_mod, v_pow, v_neg, v_lt, v_le, v_gt, v_ge, shp_int, shp_bl, shp_non, v_eq, v_ne, v_eqB, g_Ix, v_ixL, v_ixT, g_X, v_idx, v_lenL, v_lenT, v_abs, v_max, v_min, v_tup, v_list, v_listT, v_tuple, v_tupleT, v_slL, v_slT, v_truB, v_truI, v_truT, v_truL, v_truN, v_itL, v_itT, v_r1, v_r2, v_isB, v_isN, v_isntN, List.getElem?_cons_zero, List.getElem?_cons_succ, List.set_cons_zero, List.set_cons_succ, List.length_cons, List.length_nil, List.cons_append, List.nil_append, List.append_nil, List.replicate_succ, List.replicate_zero, D.frz, frzs, D.isFz, isFzs, dwipe, restore, relk, Bool.and_true, Bool.true_and, Bool.and_false, Bool.false_and, Bool.or_true, Bool.true_or, Bool.or_false, Bool.false_or, Bool.not_true, Bool.not_false, and_true, true_and, at_of, ix_of, frzs_ints, isFzs_ints, List.length_map, Int.toNat_natCast, ↓reduceIte, Nat.reduceAdd, Nat.reduceSub, Nat.reduceLT, Nat.reduceLeDiff, Int.reduceLT, Int.reduceLE, Int.reduceEq, Int.reduceAdd, Int.reduceSub, Int.reduceMul, Int.reduceNeg, Int.reduceToNat, Int.reducePow, Int.reduceBNe, Int.reduceBEq, reduceCtorEq, mulOk_l, mulOk_r, fdivOk_s, modOk_p, powOk_s, cast_of, small_le, small_lt, filt_yes, frzs_bls, v_anyB, v_allB, cutL_map, c_isIntDN, c_isIntDB, c_isIntDI, c_isIntDS, c_isIntDT, c_isIntDL, c_isBoolDN, c_isBoolDB, c_isBoolDI, c_isBoolDS, c_isBoolDT, c_isBoolDL, c_isStrDN, c_isStrDB, c_isStrDI, c_isStrDS, c_isStrDT, c_isStrDL, c_isTupDN, c_isTupDB, c_isTupDI, c_isTupDS, c_isTupDT, c_isTupDL, c_isLstDN, c_isLstDB, c_isLstDI, c_isLstDS, c_isLstDT, c_isLstDL, c_D_isNonN, c_D_isNonB, c_D_isNonI, c_D_isNonS, c_D_isNonT, c_D_isNonL, c_frz1N, c_isFz1N, c_frz1B, c_isFz1B, c_frz1I, c_isFz1I, c_frz1S, c_isFz1S, c_frz1T, c_isFz1T, c_frz1L, c_isFz1L, decide_true, decide_false, Bool.and_self, *])
def bDraw : SS :=
  sSeq (sSet (gItem 0 (ov (rC (.int 3)))) (r2 addD (ov (r2 itemD (oz 0) (ov (rC (.int 3))))) (ov (rC (.int 1))))) (sSeq (sIf (bVal (r2 eqD (ov (r2 itemD (oz 0) (ov (rC (.int 2))))) (ov (rC (.int 0))))) (sSeq (sSet (gSet 2) (rC (.int 0))) (sSeq (sIf (bVal (r2 gtD (ov (rN lenD [ov (r2 itemD (oz 0) (ov (rC (.int 0))))])) (ov (rC (.int 0))))) (sSet (gSet 2) (r2 itemD (ov (r2 itemD (oz 0) (ov (rC (.int 0))))) (ov (r2 modD (ov (r2 itemD (oz 0) (ov (rC (.int 1))))) (ov (rN lenD [ov (r2 itemD (oz 0) (ov (rC (.int 0))))])))))) (sNil)) (sSeq (sSet (gItem 0 (ov (rC (.int 1)))) (r2 addD (ov (r2 itemD (oz 0) (ov (rC (.int 1))))) (ov (rC (.int 1))))) (sSeq (sIf (bOr (bVal (r2 ltD (op 2) (ov (r2 powD (ov (rC (.int 10))) (ov (rC (.int 18))))))) (bVal (r2 gtD (ov (r2 itemD (oz 0) (ov (rC (.int 1))))) (ov (rN lenD [ov (r2 itemD (oz 0) (ov (rC (.int 0))))]))))) (sSeq (sSet (gSet 3) (r2 addD (ov (r2 addD (ov (r2 modD (op 2) (ov (rC (.int 2147483629))))) (ov (r2 mulD (ov (rC (.int 7919))) (ov (r2 itemD (oz 0) (ov (rC (.int 3))))))))) (ov (rC (.int 11))))) (sSeq (sSet (gSet 3) (r2 modD (ov (r2 mulD (op 3) (ov (r2 addD (ov (rC (.int 48271))) (ov (r2 mulD (ov (rC (.int 2))) (ov (r2 itemD (oz 0) (ov (rC (.int 3))))))))))) (ov (rC (.int 2147483647))))) (sSeq (sSet (gSet 4) (r2 modD (ov (r2 addD (ov (r2 mulD (op 3) (ov (r2 addD (ov (r2 modD (op 3) (ov (rC (.int 39373))))) (ov (r2 itemD (oz 0) (ov (rC (.int 3))))))))) (ov (r2 mulD (ov (rC (.int 31))) (ov (r2 itemD (oz 0) (ov (rC (.int 3))))))))) (ov (rC (.int 1999999973))))) (sRet (r2 modD (ov (r2 fdivD (op 4) (ov (rC (.int 7))))) (op 1)))))) (sNil)) (sSet (gItem 0 (ov (rC (.int 2)))) (rVar 2)))))) (sNil)) (sSeq (sSet (gSet 5) (r2 modD (ov (r2 itemD (oz 0) (ov (rC (.int 2))))) (op 1))) (sSeq (sSet (gItem 0 (ov (rC (.int 2)))) (r2 fdivD (ov (r2 itemD (oz 0) (ov (rC (.int 2))))) (op 1))) (sRet (rMv 5)))))
def Hnd (n : Nat) (d : D) : Prop := ∃ (o : Bool) (cs : List Int) (at_ big turn : Int), d = .lst true [.lst o (cs.map .int), .int at_, .int big, .int turn] ∧ (∀ c ∈ cs, 0 ≤ c) ∧ 0 ≤ at_ ∧ 0 ≤ big ∧ 0 ≤ turn ∧ turn ≤ n
theorem draw_ok {n : Nat} {h : D} {many : Int} (hh : Hnd n h) (hn : n < 2 ^ 62) (hm : 0 < many) (hm2 : many < 2 ^ 8000) : wR (fnRun 6 [true, false] bDraw [h, .int many]) fun q => ∃ r h', q = (.int r, [h']) ∧ 0 ≤ r ∧ r < many ∧ Hnd (n + 1) h' := by
  obtain ⟨o, cs, at_, big, turn, rfl, hc, h1, h2, h3, h4⟩ := hh
  unfold bDraw
  and_intros
  refine cIf_split (fun hb => ?_) fun hb => ?_
  · and_intros
    have fin : ∀ cell : Int, ∃ r h', (D.int
                  ((((((cell.fmod 2147483629 + 7919 * (turn + 1) + 11) * (48271 + 2 * (turn + 1))).fmod 2147483647 *
                                  ((((cell.fmod 2147483629 + 7919 * (turn + 1) + 11) * (48271 + 2 * (turn + 1))).fmod
                                          2147483647).fmod
                                      39373 +
                                    (turn + 1)) +
                                31 * (turn + 1)).fmod
                            1999999973).fdiv
                        7).fmod
                    many),
                [D.lst true [D.lst false (List.map D.int cs), D.int (at_ + 1), D.int big, D.int (turn + 1)]]) =
              (D.int r, [h']) ∧
            0 ≤ r ∧ r < many ∧ Hnd (n + 1) h' := fun cell => ⟨_, _, rfl, fmod_lo hm, fmod_hi hm, false, cs, at_ + 1, big, turn + 1, rfl, hc, by omega, by omega, by omega, by omega⟩
    have m1 : ∀ x : Int, mulOk x (48271 + 2 * (turn + 1)) = true := fun x => mulOk_r (by omega) (by omega)
    have m2 : ∀ x y : Int, mulOk (x.fmod 2147483647) y = true := fun x y => mulOk_l (by have := @fmod_lo x 2147483647 (by omega); omega) (by have := @fmod_hi x 2147483647 (by omega); omega)
    have m3 : ∀ x : Int, modOk x many = true := fun x => modOk_p hm
    refine cIf_split (fun hl => ?_) fun hl => ?_
    · and_intros
      obtain ⟨c, e, hcm⟩ := at_ints (cs := cs) (i := at_.fmod cs.length) (fmod_lo hl) (fmod_hi hl)
      refine ⟨modOk_p hl, gIx_of e ?_⟩
      and_intros
      refine cIf_split (fun h5 => ?_) fun h5 => ?_
      · and_intros
        exact ⟨m1 _, m2 _ _, m3 _, fin c⟩
      · and_intros
        refine cIf_split (fun h6 => ?_) fun h6 => ?_
        · and_intros
          exact ⟨m1 _, m2 _ _, m3 _, fin c⟩
        · and_intros
          exact ⟨m3 _, fdivOk_w hm hm2, _, _, rfl, fmod_lo hm, fmod_hi hm, false, cs, at_ + 1, c.fdiv many, turn + 1, rfl, hc, by omega, fdiv_lo (hc c hcm) (by omega), by omega, by omega⟩
    · and_intros
      exact ⟨m1 _, m2 _ _, m3 _, fin 0⟩
  · and_intros
    exact ⟨modOk_p hm, fdivOk_w hm hm2, _, _, rfl, fmod_lo hm, fmod_hi hm, false, cs, at_, big.fdiv many, turn + 1, rfl, hc, h1, fdiv_lo h2 (by omega), by omega, by omega⟩
def bHand : SS := sRet (rLst [rLc [.v (rSl (oz 0) noPart (aPart (ov (rC (.int 63)))))] itemsD [1] (gSet 1) (bYes) (rN absD [op 1]), rC (.int 0), rC (.int 0), rC (.int 0)])
theorem hand_ok (ns : List Int) : ∃ h, fnRun 2 [false] bHand [.lst false (ns.map .int)] = .ok (h, []) ∧ Hnd 0 h := by
  have : wR (fnRun 2 [false] bHand [.lst false (ns.map .int)]) fun q => ∃ h, q = (h, []) ∧ Hnd 0 h := by
    unfold bHand
    and_intros
    refine w_map (fun d => match d with | .int i => .int (if i < 0 then -i else i) | d => d) (fun _ => true) [.lk (.lst false (ns.map .int)), .no] rfl (fun x hx => ?_) fun ds e => ?_
    · obtain ⟨c, hc, rfl⟩ := List.mem_map.mp hx
      and_intros
    · simp only [dwipe] at e
      simp only [e]
      and_intros
      have hl : (cutL ns none (some 63)).length ≤ 63 := by
        unfold cutL HT.sIx
        simp only [List.length_take]
        split <;> omega
      refine ⟨by unfold sizeLine; omega, _, rfl, true, ((cutL ns none (some 63)).map fun i => if i < 0 then -i else i), 0, 0, 0, ?_, ?_, by omega⟩
      · simp only [List.map_map]
        rfl
      · intro c hc
        obtain ⟨i, _, rfl⟩ := List.mem_map.mp hc
        split <;> omega
  obtain ⟨_, e, h, rfl, hh⟩ := this
  exact ⟨h, e, hh⟩
theorem Hnd.mono {n m : Nat} {d : D} (h : Hnd n d) (k : n ≤ m) : Hnd m d := by
  obtain ⟨o, cs, a, b, t, e, h1, h2, h3, h4, h5⟩ := h
  exact ⟨o, cs, a, b, t, e, h1, h2, h3, h4, by omega⟩
end Vd
end
section
namespace Vd
open PySem L2
local macro_rules | `(tactic| and_intros) => `(tactic| simp only [wR_ok, wR_bind, w_C, w_Var, g_Var1, g_Var2, w_Mv, g_Mv1, g_Mv2, w_End, w_ov, w_op, g_Op1, g_Op2, w_oz, g_Oz1, g_Oz2, w_1, w_2, w_Not, w_Isi, w_Isi2, w_Ops0, w_Ops1, w_Tup, w_N, w_Sl, w_noPart, w_aPart, k_Part, w_Chain, isB_bl, cIf_t, cIf_f, cIf_n, w_ChainE, w_If, w_And, w_Or, w_Tru, w_Val, w_BAnd, w_BOr, w_BNot, w_BYes, w_Nil, w_Br, w_Ct, g_nx, g_br, g_ct, g_rt, w_Seq, w_SIf, w_Ret, w_Drop, w_Set, g_Set, g_Tup1, g_Tup2, g_All0, g_All1, isI_int, g_Item, q_Item, w_Q0, w_Q1, w_Lst, w_Par, w_Mut, g_Mu1, g_Mu2, v_append, k_Ext, w_Ext, g_Ex1, g_Ex2, w_Call, w_Args0, w_Args1, w_Args2, g_Ar, k_Call, w_As0, w_As1, w_As2, g_As, putm0, putm1, putm2, w_O0, w_O1, w_O2, q_rt, q_nx, w_fn, slots0, slots1, slots2, aft_nx, aft_ct, aft_br, aft_rt, w_sO0, w_sO1, w_sv, w_sp, g_Sp1, g_Sp2, w_sz, g_Sz1, g_Sz2, w_For, k_For, w_Lc, w_eO0, w_eO1, w_ev, w_ep, w_ez, k_Lc, v_add, v_addL, v_addT, v_sub, v_mul, v_fdiv, v_mod, v_pow, v_neg, v_lt, v_le, v_gt, v_ge, shp_int, shp_bl, shp_non, v_eq, v_ne, v_eqB, g_Ix, v_ixL, v_ixT, g_X, v_idx, v_lenL, v_lenT, v_abs, v_max, v_min, v_tup, v_list, v_listT, v_tuple, v_tupleT, v_slL, v_slT, v_truB, v_truI, v_truT, v_truL, v_truN, v_itL, v_itT, v_r1, v_r2, v_isB, v_isN, v_isntN, List.getElem?_cons_zero, List.getElem?_cons_succ, List.set_cons_zero, List.set_cons_succ, List.length_cons, List.length_nil, List.cons_append, List.nil_append, List.append_nil, List.replicate_succ, List.replicate_zero, D.frz, frzs, D.isFz, isFzs, dwipe, restore, relk, Bool.and_true, Bool.true_and, Bool.and_false, Bool.false_and, Bool.or_true, Bool.true_or, Bool.or_false, Bool.false_or, Bool.not_true, Bool.not_false, and_true, true_and, at_of, ix_of, frzs_ints, isFzs_ints, List.length_map, Int.toNat_natCast, ↓reduceIte, Nat.reduceAdd, Nat.reduceSub, Nat.reduceLT, Nat.reduceLeDiff, Int.reduceLT, Int.reduceLE, Int.reduceEq, Int.reduceAdd, Int.reduceSub, Int.reduceMul, Int.reduceNeg, Int.reduceToNat, Int.reducePow, Int.reduceBNe, Int.reduceBEq, reduceCtorEq, mulOk_l, mulOk_r, fdivOk_s, modOk_p, powOk_s, cast_of, small_le, small_lt, filt_yes, frzs_bls, v_anyB, v_allB, cutL_map, c_isIntDN, c_isIntDB, c_isIntDI, c_isIntDS, c_isIntDT, c_isIntDL, c_isBoolDN, c_isBoolDB, c_isBoolDI, c_isBoolDS, c_isBoolDT, c_isBoolDL, c_isStrDN, c_isStrDB, c_isStrDI, c_isStrDS, c_isStrDT, c_isStrDL, c_isTupDN, c_isTupDB, c_isTupDI, c_isTupDS, c_isTupDT, c_isTupDL, c_isLstDN, c_isLstDB, c_isLstDI, c_isLstDS, c_isLstDT, c_isLstDL, c_D_isNonN, c_D_isNonB, c_D_isNonI, c_D_isNonS, c_D_isNonT, c_D_isNonL, c_frz1N, c_isFz1N, c_frz1B, c_isFz1B, c_frz1I, c_isFz1I, c_frz1S, c_isFz1S, c_frz1T, c_isFz1T, c_frz1L, c_isFz1L, decide_true, decide_false, Bool.and_self])
local macro_rules | `(tactic| nofun) => `(tactic| simp only [wR_ok, wR_bind, w_C, w_Var, g_Var1, g_Var2, w_Mv, g_Mv1, g_Mv2, w_End, w_ov, w_op, g_Op1, g_Op2, w_oz, g_Oz1, g_Oz2, w_1, w_2, w_Not, w_Isi, w_Isi2, w_Ops0, w_Ops1, w_Tup, w_N, w_Sl, w_noPart, w_aPart, k_Part, w_Chain, isB_bl, cIf_t, cIf_f, cIf_n, w_ChainE, w_If, w_And, w_Or, w_Tru, w_Val, w_BAnd, w_BOr, w_BNot, w_BYes, w_Nil, w_Br, w_Ct, g_nx, g_br, g_ct, g_rt, w_Seq, w_SIf, w_Ret, w_Drop, w_Set, g_Set, g_Tup1, g_Tup2, g_All0, g_All1, isI_int, g_Item, q_Item, w_Q0, w_Q1, w_Lst, w_Par, w_Mut, g_Mu1, g_Mu2, v_append, k_Ext, w_Ext, g_Ex1, g_Ex2, w_Call, w_Args0, w_Args1, w_Args2, g_Ar, k_Call, w_As0, w_As1, w_As2, g_As, putm0, putm1, putm2, w_O0, w_O1, w_O2, q_rt, q_nx, w_fn, slots0, slots1, slots2, aft_nx, aft_ct, aft_br, aft_rt, w_sO0, w_sO1, w_sv, w_sp, g_Sp1, g_Sp2, w_sz, g_Sz1, g_Sz2, w_For, k_For, w_Lc, w_eO0, w_eO1, w_ev, w_ep, w_ez, k_Lc, v_add, v_addL, v_addT, v_sub, v_mul, v_fdiv, v_mod, v_pow, v_neg, v_lt, v_le, v_gt, v_ge, shp_int, shp_bl, shp_non, v_eq, v_ne, v_eqB, g_Ix, v_ixL, v_ixT, g_X, v_idx, v_lenL, v_lenT, v_abs, v_max, v_min, v_tup, v_list, v_listT, v_tuple, v_tupleT, v_slL, v_slT, v_truB, v_truI, v_truT, v_truL, v_truN, v_itL, v_itT, v_r1, v_r2, v_isB, v_isN, v_isntN, List.getElem?_cons_zero, List.getElem?_cons_succ, List.set_cons_zero, List.set_cons_succ, List.length_cons, List.length_nil, List.cons_append, List.nil_append, List.append_nil, List.replicate_succ, List.replicate_zero, D.frz, frzs, D.isFz, isFzs, dwipe, restore, relk, Bool.and_true, Bool.true_and, Bool.and_false, Bool.false_and, Bool.or_true, Bool.true_or, Bool.or_false, Bool.false_or, Bool.not_true, Bool.not_false, and_true, true_and, at_of, ix_of, frzs_ints, isFzs_ints, List.length_map, Int.toNat_natCast, ↓reduceIte, Nat.reduceAdd, Nat.reduceSub, Nat.reduceLT, Nat.reduceLeDiff, Int.reduceLT, Int.reduceLE, Int.reduceEq, Int.reduceAdd, Int.reduceSub, Int.reduceMul, Int.reduceNeg, Int.reduceToNat, Int.reducePow, Int.reduceBNe, Int.reduceBEq, reduceCtorEq, mulOk_l, mulOk_r, fdivOk_s, modOk_p, powOk_s, cast_of, small_le, small_lt, filt_yes, frzs_bls, v_anyB, v_allB, cutL_map, c_isIntDN, c_isIntDB, c_isIntDI, c_isIntDS, c_isIntDT, c_isIntDL, c_isBoolDN, c_isBoolDB, c_isBoolDI, c_isBoolDS, c_isBoolDT, c_isBoolDL, c_isStrDN, c_isStrDB, c_isStrDI, c_isStrDS, c_isStrDT, c_isStrDL, c_isTupDN, c_isTupDB, c_isTupDI, c_isTupDS, c_isTupDT, c_isTupDL, c_isLstDN, c_isLstDB, c_isLstDI, c_isLstDS, c_isLstDT, c_isLstDL, c_D_isNonN, c_D_isNonB, c_D_isNonI, c_D_isNonS, c_D_isNonT, c_D_isNonL, c_frz1N, c_isFz1N, c_frz1B, c_isFz1B, c_frz1I, c_isFz1I, c_frz1S, c_isFz1S, c_frz1T, c_isFz1T, c_frz1L, c_isFz1L, decide_true, decide_false, Bool.and_self, *])
theorem log2_le {n k : Nat} (h : n < 2 ^ k) : n.log2 ≤ k := by
  by_cases h0 : n = 0
  · subst h0; exact Nat.zero_le _
  · exact Nat.le_of_lt ((Nat.log2_lt h0).mpr h)
theorem mulOk_w {i j : Int} {s u : Nat} (h : i.natAbs < 2 ^ s) (k : j.natAbs < 2 ^ u) (e : s + u < 1000000) : mulOk i j = true := by
  unfold mulOk
  rw [Bool.or_eq_true]
  have := log2_le h
  have := log2_le k
  exact .inr (decide_eq_true (by omega))
theorem fdivOk_x {i j : Int} {u : Nat} (h0 : 0 < j) (k : j.natAbs < 2 ^ u) (e : u < 9000) : fdivOk i j = true := by
  unfold fdivOk
  rw [Bool.or_eq_true]
  have := log2_le k
  exact .inr (decide_eq_true ⟨h0, by omega⟩)
theorem pw_mono {s u : Nat} (h : s ≤ u) : 2 ^ s ≤ 2 ^ u := Nat.pow_le_pow_right (by omega) h
theorem nb_le {i : Int} {s u : Nat} (h : i.natAbs < 2 ^ s) (k : s ≤ u) : i.natAbs < 2 ^ u := Nat.lt_of_lt_of_le h (pw_mono k)
theorem nb_mul {i j : Int} {s u : Nat} (h : i.natAbs < 2 ^ s) (k : j.natAbs < 2 ^ u) : (i * j).natAbs < 2 ^ (s + u) := by
  rw [Int.natAbs_mul, Nat.pow_add]
  exact Nat.mul_lt_mul'' h k
theorem nb_add {i j : Int} {s : Nat} (h : i.natAbs < 2 ^ s) (k : j.natAbs < 2 ^ s) : (i + j).natAbs < 2 ^ (s + 1) := by
  rw [Nat.pow_succ]; omega
theorem nb_sub {i j : Int} {s : Nat} (h : i.natAbs < 2 ^ s) (k : j.natAbs < 2 ^ s) : (i - j).natAbs < 2 ^ (s + 1) := by
  rw [Nat.pow_succ]; omega
def Eu (n x y : Nat) : Prop := (y ≤ x ∧ x * y < 2 ^ n) ∨ (x < y ∧ 0 < n ∧ x * y < 2 ^ (n - 1))
theorem eu_start {x y s u : Nat} (h : x < 2 ^ s) (k : y < 2 ^ u) : Eu (s + u + 1) x y := by
  have h1 : x * y < 2 ^ (s + u) := by rw [Nat.pow_add]; exact Nat.mul_lt_mul'' h k
  by_cases hx : y ≤ x
  · exact .inl ⟨hx, Nat.lt_of_lt_of_le h1 (pw_mono (by omega))⟩
  · exact .inr ⟨by omega, by omega, h1⟩
theorem eu_step {n x y : Nat} (h : Eu n x y) (hy : 0 < y) : 0 < n ∧ Eu (n - 1) y (x % y) := by
  rcases h with ⟨h1, h2⟩ | ⟨h1, h2, h3⟩
  · have hn : 0 < n := by
      rcases Nat.eq_zero_or_pos n with e | e
      · subst e
        have : 1 * 1 ≤ x * y := Nat.mul_le_mul (by omega) (by omega)
        omega
      · exact e
    refine ⟨hn, .inl ⟨Nat.le_of_lt (Nat.mod_lt _ hy), ?_⟩⟩
    have h4 : x % y < y := Nat.mod_lt _ hy
    have h5 : 2 * (x % y) ≤ x := by
      have := Nat.mod_add_div x y
      have h6 : 1 ≤ x / y := Nat.div_pos h1 hy
      have h7 : y * 1 ≤ y * (x / y) := Nat.mul_le_mul_left y h6
      omega
    have h8 : 2 * (y * (x % y)) ≤ x * y := by
      have := Nat.mul_le_mul_right y h5
      rw [Nat.mul_assoc, Nat.mul_comm (x % y) y] at this
      exact this
    have h9 : 2 ^ n = 2 * 2 ^ (n - 1) := by
      obtain ⟨m, rfl⟩ : ∃ m, n = m + 1 := ⟨n - 1, by omega⟩
      rw [Nat.add_sub_cancel, Nat.pow_succ, Nat.mul_comm]
    omega
  · refine ⟨h2, .inl ⟨?_, ?_⟩⟩
    · rw [Nat.mod_eq_of_lt h1]; omega
    · rw [Nat.mod_eq_of_lt h1, Nat.mul_comm]; exact h3
def bGcd : SS := sSeq (sPar 0 1 [rN absD [op 0], rN absD [op 1]]) (sSeq (sWhile (bVal (r2 neD (op 1) (ov (rC (.int 0))))) (sPar 0 1 [rVar 1, r2 modD (op 0) (op 1)])) (sRet (rVar 0)))
theorem abs_nat (a : Int) : (if a < 0 then -a else a) = (a.natAbs : Int) := by split <;> omega
theorem gcd_ok {a b : Int} {s : Nat} (ha : a.natAbs < 2 ^ s) (hb : b.natAbs < 2 ^ s) (hs : s ≤ 1000000) : fnRun 2 [false, false] bGcd [.int a, .int b] = .ok (.int (Int.gcd a b), []) := by
  apply wR_get
  unfold bGcd
  and_intros
  simp only [abs_nat]
  refine w_while (fun m ds => ∃ x y : Nat, Eu m x y ∧ Nat.gcd x y = Int.gcd a b ∧ ds = [.own (.int x), .own (.int y)]) (s + s + 1) (by omega) ⟨_, _, eu_start ha hb, rfl, rfl⟩ ?_
  rintro m ds ⟨x, y, he, hg, rfl⟩
  and_intros
  refine cIf_split (fun h => ?_) fun h => ?_
  · have : y = 0 := by omega
    subst this
    and_intros
    rw [← hg, Nat.gcd_zero_right]
  · and_intros
    obtain ⟨h1, h2⟩ := eu_step he (by omega)
    refine ⟨h1, modOk_p (by omega), y, x % y, h2, ?_, ?_⟩
    · rw [← hg, Nat.gcd_comm y, ← Nat.gcd_rec, Nat.gcd_comm]
    · rw [Int.fmod_eq_emod_of_nonneg _ (by omega)]; rfl
end Vd
end
section
namespace Vd
open PySem L2
def whole (d : D) : Bool := isIntD d && !isBoolD d
def bWhole : SS := sRet (rAnd (rIsi isIntD (op 0)) (rNot (ov (rIsi isBoolD (op 0)))))
local macro_rules | `(tactic| and_intros) => `(tactic| simp only [wR_ok, wR_bind, w_C, w_Var, g_Var1, g_Var2, w_Mv, g_Mv1, g_Mv2, w_End, w_ov, w_op, g_Op1, g_Op2, w_oz, g_Oz1, g_Oz2, w_1, w_2, w_Not, w_Isi, w_Isi2, w_Ops0, w_Ops1, w_Tup, w_N, w_Sl, w_noPart, w_aPart, k_Part, w_Chain, isB_bl, cIf_t, cIf_f, cIf_n, w_ChainE, w_If, w_And, w_Or, w_Tru, w_Val, w_BAnd, w_BOr, w_BNot, w_BYes, w_Nil, w_Br, w_Ct, g_nx, g_br, g_ct, g_rt, w_Seq, w_SIf, w_Ret, w_Drop, w_Set, g_Set, g_Tup1, g_Tup2, g_All0, g_All1, isI_int, g_Item, q_Item, w_Q0, w_Q1, w_Lst, w_Par, w_Mut, g_Mu1, g_Mu2, v_append, k_Ext, w_Ext, g_Ex1, g_Ex2, w_Call, w_Args0, w_Args1, w_Args2, g_Ar, k_Call, w_As0, w_As1, w_As2, g_As, putm0, putm1, putm2, w_O0, w_O1, w_O2, q_rt, q_nx, w_fn, slots0, slots1, slots2, aft_nx, aft_ct, aft_br, aft_rt, w_sO0, w_sO1, w_sv, w_sp, g_Sp1, g_Sp2, w_sz, g_Sz1, g_Sz2, w_For, k_For, w_Lc, w_eO0, w_eO1, w_ev, w_ep, w_ez, k_Lc, v_add, v_addL, v_addT, v_sub, v_mul, v_fdiv, v_mod, v_pow, v_neg, v_lt, v_le, v_gt, v_ge, shp_int, shp_bl, shp_non, v_eq, v_ne, v_eqB, g_Ix, v_ixL, v_ixT, g_X, v_idx, v_lenL, v_lenT, v_abs, v_max, v_min, v_tup, v_list, v_listT, v_tuple, v_tupleT, v_slL, v_slT, v_truB, v_truI, v_truT, v_truL, v_truN, v_itL, v_itT, v_r1, v_r2, v_isB, v_isN, v_isntN, List.getElem?_cons_zero, List.getElem?_cons_succ, List.set_cons_zero, List.set_cons_succ, List.length_cons, List.length_nil, List.cons_append, List.nil_append, List.append_nil, List.replicate_succ, List.replicate_zero, D.frz, frzs, D.isFz, isFzs, dwipe, restore, relk, Bool.and_true, Bool.true_and, Bool.and_false, Bool.false_and, Bool.or_true, Bool.true_or, Bool.or_false, Bool.false_or, Bool.not_true, Bool.not_false, and_true, true_and, at_of, ix_of, frzs_ints, isFzs_ints, List.length_map, Int.toNat_natCast, ↓reduceIte, Nat.reduceAdd, Nat.reduceSub, Nat.reduceLT, Nat.reduceLeDiff, Int.reduceLT, Int.reduceLE, Int.reduceEq, Int.reduceAdd, Int.reduceSub, Int.reduceMul, Int.reduceNeg, Int.reduceToNat, Int.reducePow, Int.reduceBNe, Int.reduceBEq, reduceCtorEq, mulOk_l, mulOk_r, fdivOk_s, modOk_p, powOk_s, cast_of, small_le, small_lt, filt_yes, frzs_bls, v_anyB, v_allB, cutL_map, c_isIntDN, c_isIntDB, c_isIntDI, c_isIntDS, c_isIntDT, c_isIntDL, c_isBoolDN, c_isBoolDB, c_isBoolDI, c_isBoolDS, c_isBoolDT, c_isBoolDL, c_isStrDN, c_isStrDB, c_isStrDI, c_isStrDS, c_isStrDT, c_isStrDL, c_isTupDN, c_isTupDB, c_isTupDI, c_isTupDS, c_isTupDT, c_isTupDL, c_isLstDN, c_isLstDB, c_isLstDI, c_isLstDS, c_isLstDT, c_isLstDL, c_D_isNonN, c_D_isNonB, c_D_isNonI, c_D_isNonS, c_D_isNonT, c_D_isNonL, c_frz1N, c_isFz1N, c_frz1B, c_isFz1B, c_frz1I, c_isFz1I, c_frz1S, c_isFz1S, c_frz1T, c_isFz1T, c_frz1L, c_isFz1L, decide_true, decide_false, Bool.and_self])
local macro_rules | `(tactic| nofun) => `(tactic| simp only [wR_ok, wR_bind, w_C, w_Var, g_Var1, g_Var2, w_Mv, g_Mv1, g_Mv2, w_End, w_ov, w_op, g_Op1, g_Op2, w_oz, g_Oz1, g_Oz2, w_1, w_2, w_Not, w_Isi, w_Isi2, w_Ops0, w_Ops1, w_Tup, w_N, w_Sl, w_noPart, w_aPart, k_Part, w_Chain, isB_bl, cIf_t, cIf_f, cIf_n, w_ChainE, w_If, w_And, w_Or, w_Tru, w_Val, w_BAnd, w_BOr, w_BNot, w_BYes, w_Nil, w_Br, w_Ct, g_nx, g_br, g_ct, g_rt, w_Seq, w_SIf, w_Ret, w_Drop, w_Set, g_Set, g_Tup1, g_Tup2, g_All0, g_All1, isI_int, g_Item, q_Item, w_Q0, w_Q1, w_Lst, w_Par, w_Mut, g_Mu1, g_Mu2, v_append, k_Ext, w_Ext, g_Ex1, g_Ex2, w_Call, w_Args0, w_Args1, w_Args2, g_Ar, k_Call, w_As0, w_As1, w_As2, g_As, putm0, putm1, putm2, w_O0, w_O1, w_O2, q_rt, q_nx, w_fn, slots0, slots1, slots2, aft_nx, aft_ct, aft_br, aft_rt, w_sO0, w_sO1, w_sv, w_sp, g_Sp1, g_Sp2, w_sz, g_Sz1, g_Sz2, w_For, k_For, w_Lc, w_eO0, w_eO1, w_ev, w_ep, w_ez, k_Lc, v_add, v_addL, v_addT, v_sub, v_mul, v_fdiv, v_mod, v_pow, v_neg, v_lt, v_le, v_gt, v_ge, shp_int, shp_bl, shp_non, v_eq, v_ne, v_eqB, g_Ix, v_ixL, v_ixT, g_X, v_idx, v_lenL, v_lenT, v_abs, v_max, v_min, v_tup, v_list, v_listT, v_tuple, v_tupleT, v_slL, v_slT, v_truB, v_truI, v_truT, v_truL, v_truN, v_itL, v_itT, v_r1, v_r2, v_isB, v_isN, v_isntN, List.getElem?_cons_zero, List.getElem?_cons_succ, List.set_cons_zero, List.set_cons_succ, List.length_cons, List.length_nil, List.cons_append, List.nil_append, List.append_nil, List.replicate_succ, List.replicate_zero, D.frz, frzs, D.isFz, isFzs, dwipe, restore, relk, Bool.and_true, Bool.true_and, Bool.and_false, Bool.false_and, Bool.or_true, Bool.true_or, Bool.or_false, Bool.false_or, Bool.not_true, Bool.not_false, and_true, true_and, at_of, ix_of, frzs_ints, isFzs_ints, List.length_map, Int.toNat_natCast, ↓reduceIte, Nat.reduceAdd, Nat.reduceSub, Nat.reduceLT, Nat.reduceLeDiff, Int.reduceLT, Int.reduceLE, Int.reduceEq, Int.reduceAdd, Int.reduceSub, Int.reduceMul, Int.reduceNeg, Int.reduceToNat, Int.reducePow, Int.reduceBNe, Int.reduceBEq, reduceCtorEq, mulOk_l, mulOk_r, fdivOk_s, modOk_p, powOk_s, cast_of, small_le, small_lt, filt_yes, frzs_bls, v_anyB, v_allB, cutL_map, c_isIntDN, c_isIntDB, c_isIntDI, c_isIntDS, c_isIntDT, c_isIntDL, c_isBoolDN, c_isBoolDB, c_isBoolDI, c_isBoolDS, c_isBoolDT, c_isBoolDL, c_isStrDN, c_isStrDB, c_isStrDI, c_isStrDS, c_isStrDT, c_isStrDL, c_isTupDN, c_isTupDB, c_isTupDI, c_isTupDS, c_isTupDT, c_isTupDL, c_isLstDN, c_isLstDB, c_isLstDI, c_isLstDS, c_isLstDT, c_isLstDL, c_D_isNonN, c_D_isNonB, c_D_isNonI, c_D_isNonS, c_D_isNonT, c_D_isNonL, c_frz1N, c_isFz1N, c_frz1B, c_isFz1B, c_frz1I, c_isFz1I, c_frz1S, c_isFz1S, c_frz1T, c_isFz1T, c_frz1L, c_isFz1L, decide_true, decide_false, Bool.and_self, *])
theorem whole_ok (d : D) : fnRun 1 [false] bWhole [d] = .ok (.bl (whole d), []) := by
  apply wR_get
  unfold bWhole whole
  cases d <;> and_intros
def Num (s : Nat) : D → Prop
  | .int a => a.natAbs < 2 ^ s
  | .tup [.int a, .int b] => 2 ≤ b ∧ Int.gcd a b = 1 ∧ a.natAbs < 2 ^ s ∧ b.natAbs < 2 ^ s
  | _ => False
def topD : D → Int
  | .int a => a
  | .tup [.int a, .int _] => a
  | _ => 0
def belD : D → Int
  | .tup [.int _, .int b] => b
  | _ => 1
theorem Num.cases {s : Nat} {d : D} (h : Num s d) : (∃ a, d = .int a ∧ a.natAbs < 2 ^ s) ∨ ∃ a b, d = .tup [.int a, .int b] ∧ 2 ≤ b ∧ Int.gcd a b = 1 ∧ a.natAbs < 2 ^ s ∧ b.natAbs < 2 ^ s := by
  unfold Num at h
  split at h
  · exact .inl ⟨_, rfl, h⟩
  · exact .inr ⟨_, _, rfl, h⟩
  · exact h.elim
theorem Num.fz {s : Nat} {d : D} (h : Num s d) : d.isFz = true := by
  rcases h.cases with ⟨a, rfl, _⟩ | ⟨a, b, rfl, _⟩ <;> rfl
theorem Num.frz {s : Nat} {d : D} (h : Num s d) : d.frz = d := frz_of h.fz
theorem fz1_of {d : D} (h : d.isFz = true) : d.isFz1 = true := by
  cases d with
  | lst o xs =>
    simp only [D.isFz, Bool.and_eq_true] at h
    exact h.2
  | _ => rfl
theorem Num.fz1 {s : Nat} {d : D} (h : Num s d) : d.isFz1 = true := fz1_of h.fz
theorem Num.frz1 {s : Nat} {d : D} (h : Num s d) : d.frz1 = d := frz1_of h.fz
theorem Num.mono {s u : Nat} {d : D} (h : Num s d) (k : s ≤ u) : Num u d := by
  rcases h.cases with ⟨a, rfl, h1⟩ | ⟨a, b, rfl, h1, h2, h3, h4⟩
  · exact nb_le h1 k
  · exact ⟨h1, h2, nb_le h3 k, nb_le h4 k⟩
theorem Num.top {s : Nat} {d : D} (h : Num s d) : (topD d).natAbs < 2 ^ s := by
  rcases h.cases with ⟨a, rfl, h1⟩ | ⟨a, b, rfl, h1, h2, h3, h4⟩
  · exact h1
  · exact h3
theorem Num.bel {s : Nat} {d : D} (h : Num s d) (hs : 0 < s) : (belD d).natAbs < 2 ^ s := by
  rcases h.cases with ⟨a, rfl, h1⟩ | ⟨a, b, rfl, h1, h2, h3, h4⟩
  · exact Nat.lt_of_lt_of_le (by decide : (1 : Int).natAbs < 2 ^ 1) (pw_mono hs)
  · exact h4
theorem bel_pos {s : Nat} {d : D} (h : Num s d) : 0 < belD d := by
  rcases h.cases with ⟨a, rfl, h1⟩ | ⟨a, b, rfl, h1, h2, h3, h4⟩
  · show (0 : Int) < 1; omega
  · show 0 < b; omega
def numOf (t b : Int) : D := if b = (Int.gcd t b : Int) then .int (t.fdiv (Int.gcd t b)) else .tup [.int (t.fdiv (Int.gcd t b)), .int (b.fdiv (Int.gcd t b))]
theorem gcd_facts {t b : Int} (hb : 0 < b) : ∃ x y : Int, t = Int.gcd t b * x ∧ b = Int.gcd t b * y ∧ 0 < y ∧ 0 < (Int.gcd t b : Int) ∧ t.fdiv (Int.gcd t b) = x ∧ b.fdiv (Int.gcd t b) = y ∧ Int.gcd x y = 1 := by
  have h3 : Int.gcd t b ≠ 0 := fun z => by
    have h2 : (Int.gcd t b : Int) ∣ b := Int.gcd_dvd_right ..
    rw [z] at h2
    have := Int.zero_dvd.mp h2
    omega
  have hp : 0 < (Int.gcd t b : Int) := by omega
  obtain ⟨x, hx⟩ : (Int.gcd t b : Int) ∣ t := Int.gcd_dvd_left ..
  obtain ⟨y, hy⟩ : (Int.gcd t b : Int) ∣ b := Int.gcd_dvd_right ..
  have hy0 : 0 < y := by
    rcases Int.lt_or_le 0 y with h | h
    · exact h
    · have := Int.mul_le_mul_of_nonneg_left h (Int.le_of_lt hp)
      rw [← hy] at this
      omega
  refine ⟨x, y, hx, hy, hy0, hp, ?_, ?_, ?_⟩
  · rw [Int.fdiv_eq_ediv_of_nonneg _ (by omega)]
    exact Int.ediv_eq_of_eq_mul_right (by omega) hx
  · rw [Int.fdiv_eq_ediv_of_nonneg _ (by omega)]
    exact Int.ediv_eq_of_eq_mul_right (by omega) hy
  · have : Int.gcd (Int.gcd t b * x) (Int.gcd t b * y) = (Int.gcd t b : Int).natAbs * Int.gcd x y := Int.gcd_mul_left ..
    rw [← hx, ← hy] at this
    rw [Int.natAbs_natCast] at this
    have h5 : Int.gcd t b * 1 = Int.gcd t b * Int.gcd x y := by omega
    exact (Nat.eq_of_mul_eq_mul_left (by omega) h5).symm
theorem nb_div {g x : Int} {s : Nat} (hg : 0 < g) (h : (g * x).natAbs < 2 ^ s) : x.natAbs < 2 ^ s := by
  rw [Int.natAbs_mul] at h
  refine Nat.lt_of_le_of_lt ?_ h
  exact Nat.le_mul_of_pos_left _ (by omega)
theorem numOf_num {t b : Int} {s : Nat} (hb : 0 < b) (ht : t.natAbs < 2 ^ s) (hs : b.natAbs < 2 ^ s) : Num s (numOf t b) := by
  obtain ⟨x, y, h1, h2, h3, h4, h5, h6, h7⟩ := gcd_facts (t := t) hb
  have hx : x.natAbs < 2 ^ s := nb_div h4 (by rw [← h1]; exact ht)
  have hy : y.natAbs < 2 ^ s := nb_div h4 (by rw [← h2]; exact hs)
  unfold numOf
  rw [h5, h6]
  split
  · exact hx
  · rename_i hne
    refine ⟨?_, h7, hx, hy⟩
    rcases Int.lt_or_le y 2 with h | h
    · have : y = 1 := by omega
      subst this
      omega
    · exact h
theorem numOf_val {t b : Int} (hb : 0 < b) : topD (numOf t b) * b = t * belD (numOf t b) := by
  obtain ⟨x, y, h1, h2, h3, h4, h5, h6, h7⟩ := gcd_facts (t := t) hb
  unfold numOf
  rw [h5, h6]
  split
  · rename_i he
    show x * b = t * 1
    rw [he, Int.mul_one, Int.mul_comm]
    exact h1.symm
  · have key : ∀ g t b : Int, t = g * x → b = g * y → x * b = t * y := by
      rintro g _ _ rfl rfl
      rw [Int.mul_left_comm, Int.mul_assoc]
    exact key _ _ _ h1 h2
def bTop : SS := sSeq (sIf (bTru (ov (rIsi isTupD (op 0)))) (sRet (r2 itemD (oz 0) (ov (rC (.int 0))))) (sNil)) (sRet (rVar 0))
theorem top_ok {d : D} {s : Nat} (h : Num s d) : fnRun 1 [false] bTop [d] = .ok (.int (topD d), []) := by
  apply wR_get
  unfold bTop
  rcases h.cases with ⟨a, rfl, _⟩ | ⟨a, b, rfl, _⟩ <;> (and_intros; rfl)
def bBel : SS := sSeq (sIf (bTru (ov (rIsi isTupD (op 0)))) (sRet (r2 itemD (oz 0) (ov (rC (.int 1))))) (sNil)) (sRet (rC (.int 1)))
theorem bel_ok {d : D} {s : Nat} (h : Num s d) : fnRun 1 [false] bBel [d] = .ok (.int (belD d), []) := by
  apply wR_get
  unfold bBel
  rcases h.cases with ⟨a, rfl, _⟩ | ⟨a, b, rfl, _⟩ <;> (and_intros; rfl)
section
variable {C : CE} {it ib ino ip : Nat} {s : Nat} {x y : D}
theorem mul_ok {i j : Int} {s : Nat} (h : i.natAbs < 2 ^ s) (k : j.natAbs < 2 ^ s) (hs : s ≤ 8990) : mulOk i j = true := mulOk_w h k (by omega)
end
end Vd
end
section
namespace Vd
open PySem L2
section
variable {K : PySem.W.Frag} {X : Cx} {P : List Nat}
def pairD (x y : D) : D := .tup [x, y]
def zipD : List D → Res (List D)
  | [.lst _ xs, .lst _ ys] => if (isFzs xs && isFzs ys) = true then .ok (List.zipWith pairD xs ys) else .bad
  | [.tup xs, .tup ys] => if (isFzs xs && isFzs ys) = true then .ok (List.zipWith pairD xs ys) else .bad
  | _ => .bad
def enumD : List D → Res (List D)
  | [.lst _ xs] => if isFzs xs = true then .ok (List.zipWith pairD ((List.range xs.length).map fun k : Nat => .int k) xs) else .bad
  | _ => .bad
theorem pair_rep {Sh : AS} {H : Hp} {T : Addr} {x y : V} {d e : D} {F G : AS} (hT : H T = none) (rx : Rep K Sh H x d F) (ry : Rep K Sh H y e G) (hd : d.isFz = true) (he : e.isFz = true) :
    Nw H (upd H T (.tup [x, y])) (fun b => b = T) ∧ ∀ M, Rep K Sh (upd H T (.tup [x, y])) (.ref T) (pairD d e) M := by
  have n : Nw H (upd H T (.tup [x, y])) (fun b => b = T) := Nw.upd hT
  refine ⟨n, fun M => .tup (.inl (.inl (upd_same ..))) ?_⟩
  have h1 : Rep K Sh H x d emp := rx.ofFz hd
  have h2 : Rep K Sh H y e emp := ry.ofFz he
  exact .cons (G1 := emp) (G2 := emp) (n.rep h1) (.cons (G1 := emp) (G2 := emp) (n.rep h2) .nil .nil .nil .nil_l) .nil .nil .nil_l
theorem fz_at {xs : List D} {i : Nat} {d : D} (h : isFzs xs = true) (e : xs[i]? = some d) : d.isFz = true := by
  rw [isFzs_eq, List.all_eq_true] at h
  exact h d (List.mem_of_getElem? e)
theorem zip_at {xs ys : List D} {i : Nat} {d e : D} (h : xs[i]? = some d) (k : ys[i]? = some e) : (List.zipWith pairD xs ys)[i]? = some (pairD d e) := by
  rw [List.getElem?_zipWith, h, k]
theorem zip_rel : IterRel K zipD (fun vs H R => ∃ a b xs ys, vs = [.ref a, .ref b] ∧ ((SqL K H a xs ∧ SqL K H b ys ∧ R (Itz K a b) H) ∨ (SqT K H a xs ∧ SqT K H b ys ∧ R (RZ.ItzT K a b) H))) := by
  intro Sh L H vs ds items R v e k
  unfold zipD at e
  split at e
  · split at e
    · rename_i xs o ys c
      rw [Bool.and_eq_true] at c
      cases e
      obtain ⟨x, y, rfl, rx, ry⟩ := v.two
      obtain ⟨a, us, rfl, ha, ra⟩ := rx.lst
      obtain ⟨b, ws, rfl, hb, rb⟩ := ry.lst
      refine ⟨a, b, us, ws, rfl, .inl ⟨ha.sq, hb.sq, k _ (fun i H1 v H2 => ∃ T x y, v = .ref T ∧ H1 T = none ∧ H2 = upd H1 T (.tup [x, y]) ∧ (∀ xs, SqL K H1 a xs → xs[i]? = some x) ∧ ∀ ys, SqL K H1 b ys → ys[i]? = some y) ⟨fun i H1 hi ⟨S1, h1⟩ => ?_, fun H1 ⟨S1, h1⟩ => ?_, fun i H1 x H2 hi g y => y⟩ fun i H1 S1 x H2 hi h1 y => ?_⟩⟩
      all_goals
        obtain ⟨x', y', q, r1, r2⟩ := h1.two
        cases q
        obtain ⟨a', us', e', ha', ra'⟩ := r1.lst
        cases e'
        obtain ⟨b', ws', e', hb', rb'⟩ := r2.lst
        cases e'
        have l1 := ra'.length
        have l2 := rb'.length
      · rw [List.length_zipWith] at hi
        obtain ⟨z, hz⟩ : ∃ z, us'[i]? = some z := ⟨us'[i]'(by omega), by simp [show i < us'.length by omega]⟩
        obtain ⟨z2, hz2⟩ : ∃ z, ws'[i]? = some z := ⟨ws'[i]'(by omega), by simp [show i < ws'.length by omega]⟩
        exact ⟨us', ws', z, z2, ha'.sq, hb'.sq, hz, hz2⟩
      · refine ⟨us', ws', ha'.sq, hb'.sq, ?_⟩
        rw [List.length_zipWith]; omega
      · rw [List.length_zipWith] at hi
        obtain ⟨T, x, y, rfl, hT, rfl, hx, hy⟩ := y
        obtain ⟨d, hd⟩ : ∃ d, xs[i]? = some d := ⟨xs[i]'(by omega), by simp [show i < xs.length by omega]⟩
        obtain ⟨d2, hd2⟩ : ∃ d, ys[i]? = some d := ⟨ys[i]'(by omega), by simp [show i < ys.length by omega]⟩
        obtain ⟨v', hv', rv'⟩ := ra'.get hd
        obtain ⟨v2, hv2, rv2⟩ := rb'.get hd2
        have e1 := hx us' ha'.sq
        have e2 := hy ws' hb'.sq
        rw [hv'] at e1
        rw [hv2] at e2
        cases e1
        cases e2
        obtain ⟨n, rp⟩ := pair_rep hT rv' rv2 (fz_at c.1 hd) (fz_at c.2 hd2)
        exact ⟨_, _, zip_at hd hd2, n, rp⟩
    · cases e
  · split at e
    · rename_i xs ys c
      rw [Bool.and_eq_true] at c
      cases e
      obtain ⟨x, y, rfl, rx, ry⟩ := v.two
      obtain ⟨a, us, rfl, ha, ra⟩ := rx.tupI
      obtain ⟨b, ws, rfl, hb, rb⟩ := ry.tupI
      refine ⟨a, b, us, ws, rfl, .inr ⟨ha, hb, k _ (fun i H1 v H2 => ∃ T x y, v = .ref T ∧ H1 T = none ∧ H2 = upd H1 T (.tup [x, y]) ∧ (∀ xs, SqT K H1 a xs → xs[i]? = some x) ∧ ∀ ys, SqT K H1 b ys → ys[i]? = some y) ⟨fun i H1 hi ⟨S1, h1⟩ => ?_, fun H1 ⟨S1, h1⟩ => ?_, fun i H1 x H2 hi g y => y⟩ fun i H1 S1 x H2 hi h1 y => ?_⟩⟩
      all_goals
        obtain ⟨x', y', q, r1, r2⟩ := h1.two
        cases q
        obtain ⟨a', us', e', ha', ra'⟩ := r1.tupI
        cases e'
        obtain ⟨b', ws', e', hb', rb'⟩ := r2.tupI
        cases e'
        have l1 := ra'.length
        have l2 := rb'.length
      · rw [List.length_zipWith] at hi
        obtain ⟨z, hz⟩ : ∃ z, us'[i]? = some z := ⟨us'[i]'(by omega), by simp [show i < us'.length by omega]⟩
        obtain ⟨z2, hz2⟩ : ∃ z, ws'[i]? = some z := ⟨ws'[i]'(by omega), by simp [show i < ws'.length by omega]⟩
        exact ⟨us', ws', z, z2, ha', hb', hz, hz2⟩
      · refine ⟨us', ws', ha', hb', ?_⟩
        rw [List.length_zipWith]; omega
      · rw [List.length_zipWith] at hi
        obtain ⟨T, x, y, rfl, hT, rfl, hx, hy⟩ := y
        obtain ⟨d, hd⟩ : ∃ d, xs[i]? = some d := ⟨xs[i]'(by omega), by simp [show i < xs.length by omega]⟩
        obtain ⟨d2, hd2⟩ : ∃ d, ys[i]? = some d := ⟨ys[i]'(by omega), by simp [show i < ys.length by omega]⟩
        obtain ⟨v', hv', rv'⟩ := ra'.get hd
        obtain ⟨v2, hv2, rv2⟩ := rb'.get hd2
        have e1 := hx us' ha'
        have e2 := hy ws' hb'
        rw [hv'] at e1
        rw [hv2] at e2
        cases e1
        cases e2
        obtain ⟨n, rp⟩ := pair_rep hT rv' rv2 (fz_at c.1 hd) (fz_at c.2 hd2)
        exact ⟨_, _, zip_at hd hd2, n, rp⟩
    · cases e
  · cases e
theorem enum_rel : IterRel K enumD (fun vs H R => ∃ a xs, vs = [.ref a] ∧ SqL K H a xs ∧ R (Ite K a) H) := by
  intro Sh L H vs ds items R v e k
  unfold enumD at e
  split at e
  · split at e
    · rename_i o xs c
      cases e
      obtain ⟨x, rfl, rx⟩ := v.one
      obtain ⟨a, us, rfl, ha, ra⟩ := rx.lst
      have hl : (List.zipWith pairD ((List.range xs.length).map fun k : Nat => D.int k) xs).length = xs.length := by simp
      refine ⟨a, us, rfl, ha.sq, k _ (fun i H1 v H2 => ∃ T x, v = .ref T ∧ H1 T = none ∧ H2 = upd H1 T (.tup [.int (i : Nat), x]) ∧ ∀ xs, SqL K H1 a xs → xs[i]? = some x) ⟨fun i H1 hi ⟨S1, h1⟩ => ?_, fun H1 ⟨S1, h1⟩ => ?_, fun i H1 x H2 hi g y => y⟩ fun i H1 S1 x H2 hi h1 y => ?_⟩
      all_goals
        obtain ⟨x', q, r1⟩ := h1.one
        cases q
        obtain ⟨a', us', e', ha', ra'⟩ := r1.lst
        cases e'
        have l1 := ra'.length
      · rw [hl] at hi
        obtain ⟨z, hz⟩ : ∃ z, us'[i]? = some z := ⟨us'[i]'(by omega), by simp [show i < us'.length by omega]⟩
        exact ⟨us', z, ha'.sq, hz⟩
      · exact ⟨us', ha'.sq, by rw [hl]; omega⟩
      · rw [hl] at hi
        obtain ⟨T, x, rfl, hT, rfl, hx⟩ := y
        obtain ⟨d, hd⟩ : ∃ d, xs[i]? = some d := ⟨xs[i]'(by omega), by simp [show i < xs.length by omega]⟩
        obtain ⟨v', hv', rv'⟩ := ra'.get hd
        have e1 := hx us' ha'.sq
        rw [hv'] at e1
        cases e1
        obtain ⟨n, rp⟩ := pair_rep (F := emp) hT (.int (i : Nat)) rv' rfl (fz_at c hd)
        exact ⟨_, _, zip_at (by rw [List.getElem?_map, List.getElem?_range hi]; rfl) hd, n, rp⟩
    · cases e
  · cases e
theorem it_zip {elts : List Expr} {kk : Nat} {tpos : Pos} {a b : Expr} {p pos : Pos} {o o' : OK} (h : EK X P a o) (h' : EK X P b o') (hm : X.mg "zip" = none) (hg : Gl X "zip" := by rfl)
    (hs : starEach [a, b] X.env = (false, eval a X.env) :: starEach [b] X.env := by rfl) (hs2 : starEach [b] X.env = [(false, eval b X.env)] := by rfl) (hpl : (backTo pos (starEach [b] X.env)).any (·.1) = false := by rfl) :
    ITO X P (.Tuple elts kk tpos) (.Call (.Name "zip" p) [a, b] [] pos) [o, o'] zipD := by
  obtain ⟨t, k⟩ := eks_cons h' eks_nil hs2
  obtain ⟨t', k'⟩ := eks_cons h k hs
  exact ⟨t', _, RZ.pi_zipA hg hm k'.pa hs hpl, zip_rel, k'.e, k'.s, k'.mono⟩
theorem it_enum {elts : List Expr} {kk : Nat} {tpos : Pos} {a : Expr} {p pos : Pos} {o : OK} (h : EK X P a o) (hm : X.mg "enumerate" = none) (hg : Gl X "enumerate" := by rfl) (hs : starEach [a] X.env = [(false, eval a X.env)] := by rfl) :
    ITO X P (.Tuple elts kk tpos) (.Call (.Name "enumerate" p) [a] [] pos) [o] enumD := by
  obtain ⟨t, k⟩ := eks_cons h eks_nil hs
  exact ⟨t, _, pi_enum hg hm k.pa hs, enum_rel, k.e, k.s, k.mono⟩
end
end Vd
end
section
namespace Vd
open PySem L2
section
variable {K : PySem.W.Frag} {X : Cx} {P : List Nat}
def intAt : Option Slot → Option Int
  | some (.own (.int a)) => some a
  | some (.lk (.int a)) => some a
  | _ => none
def sAugI (i : Nat) (g : Int → Int → Int) (r : ES) : SS := fun ds => match intAt ds[i]? with
  | some a => (r ds).bind fun p => match p.1 with
    | .int b => .ok (.nx, p.2.set i (.own (.int (g a b))))
    | _ => .bad
  | none => .bad
end
end Vd
end
section
namespace Vd
open PySem L2
section
variable {K : PySem.W.Frag} {X : Cx} {P : List Nat}
def okArgs : List Bool → List D → Bool
  | [], [] => true
  | true :: ms, _ :: ds => okArgs ms ds
  | false :: ms, d :: ds => d.isFz && okArgs ms ds
  | _, _ => false
def rCallO (C : CE) (f : Nat) (ms : List Bool) (rs : List ES) : ES := fun ds => (rSeq rs ds).bind fun p => if okArgs ms p.1 = true then (C f p.1).bind fun q => .ok (q.1, p.2) else .bad
end
end Vd
end
section
namespace PySem
open Sem (wp)
section
variable {prog : Program} {w : World} {A : Around} {E : Value → Shared → Prop} {s : Shared}
theorem vd_min2 {a b : Value} {Q : Value → Shared → Prop}
    (h : wpAny (model prog w) A.in1 (pyIter (.ref s.heap.objs.size)) (fun it t => ∃ I fp wr G n P St H bt, it = .ref I ∧ WalksS prog w A.in1 I fp wr G n P St ∧ St 0 t ∧ (∀ c ∈ fp, c < t.heap.objs.size) ∧ 0 < n ∧
      (∀ c o, H.get? c = some o → c ∉ wr) ∧ (∀ c o, H.get? c = some o → t.heap.get? c = some o) ∧ CmpIn prog w A.in1 .Lt H P bt ∧ ∀ v s', P (argBest bt (n - 1)) v → Moved wr G t s' → Q v s') E
      { s with heap := s.heap.push { cls := .type "tuple", data := .seq #[a, b] } }) : wpAny (model prog w) A (call (.builtin "min") [a, b]) Q E s := by
  refine call_function_tree F.kind_min F.plain_min F.entry_min (F.args_min2 a b) ?_
  show wpAny _ A.in1 (Builtin.Builtins.bindParams "min" ["key", "default"] 0 ⟨[], []⟩ >>= _) _ _ _
  refine wpAny_bind (wpAny_of_eq (show _ = pure [none, none] from rfl) ?_)
  show wpAny _ A.in1 (newTuple [a, b] >>= _) _ _ _
  refine wpAny_bind (wpAny_newObj_type (wpAny_bind (wpAny_mono h (fun it t ht => ?_) fun _ _ e => e)))
  obtain ⟨I, fp, wr, G, n, P, St, H, bt, rfl, W, h0, hfp, hn, hw, hk, hc, hq⟩ := ht
  refine wpAny_bind (wpAny_newObj_type ?_)
  have nf : t.heap.objs.size ∉ fp := fun m => Nat.lt_irrefl _ (hfp _ m)
  rw [show (toString "min" ++ toString ".loop" : String) = "min.loop" by decide]
  exact wpAny_pure ⟨plainId_quiet F.plain_min_loop _, codeAny_min_loop_firstH W H hw bt hc t.heap.objs.size nf (fresh_in hk) _ hn (fun c o e => Heap.get?_push_of_some _ (hk c o e))
    (W.frame 0 t _ t.toks h0 (Nat.le_refl _) fun c _ o e => Heap.get?_push_of_some _ e) (Heap.get?_push_size _ rfl) fun v s' hp hm => hq v s' hp (Moved.drop_new (tk := t.toks) hm (Nat.le_refl _))⟩
end
end PySem
namespace Vd
open PySem L2 PySem.W
section
variable {K : PySem.W.Frag} {X : Cx}
def noneB : PyData → Bool
  | .none => true
  | _ => false
def alk2 (d e : PyData) : Bool := alike d d && alike d e && alike e d && alike e e && !noneB d && !noneB e && SeqAt.shaped d && SeqAt.shaped e
theorem alk2_all {d e : PyData} (h : alk2 d e = true) : AlikeAll [d, e] ∧ PyData.depthAll [d, e] ≤ 64 := by
  unfold alk2 at h
  simp only [Bool.and_eq_true, Bool.not_eq_true'] at h
  obtain ⟨⟨⟨⟨⟨⟨⟨h1, h2⟩, h3⟩, h4⟩, h5⟩, h6⟩, h7⟩, h8⟩ := h
  refine ⟨⟨fun x hx y hy => ?_, fun x hx e => ?_⟩, ?_⟩
  · simp only [List.mem_cons, List.not_mem_nil, or_false] at hx hy
    rcases hx with rfl | rfl <;> rcases hy with rfl | rfl <;> assumption
  · simp only [List.mem_cons, List.not_mem_nil, or_false] at hx
    subst e
    rcases hx with rfl | rfl
    · cases h5
    · cases h6
  · have := SeqAt.depth_of_shaped h7
    have := SeqAt.depth_of_shaped h8
    simp only [PyData.depthAll]
    omega
def rMin2 (K : PySem.W.Frag) : List V → Hp → VK → Prop := fun xs H Q => ∃ x y d e, xs = [x, y] ∧ Dp K H x d ∧ Dp K H y e ∧ alk2 d e = true ∧ Q (if dataLt e d = true then y else x) H
theorem cr_min2 (hc : X.calm = true) (hu : X.A.units + 66 < cLine) : CallR X (.builtin "min") (rMin2 X.K) := by
  intro pins s σ H xs us Q I r h
  obtain ⟨x, y, d, e, rfl, hd, he, ha, q⟩ := h
  obtain ⟨u, v, rfl, ru, rv⟩ := vals2 r
  obtain ⟨as, r1⟩ := Dp.reads I d x u hd ru
  obtain ⟨bs, r2⟩ := Dp.reads I e y v he rv
  obtain ⟨hal, hdp⟩ := alk2_all ha
  have kp : ∀ b o, s.heap.get? b = some o → (s.heap.push { cls := .type "tuple", data := .seq #[u, v] }).get? b = some o := fun b o z => Heap.get?_push_of_some _ z
  have hT : (s.heap.push { cls := .type "tuple", data := .seq #[u, v] }).IsTuple s.heap.objs.size #[u, v] := ⟨_, Heap.get?_push_size _ rfl, rfl, 0, rfl⟩
  refine vd_min2 (iter_tupleW (A := X.A.in1) (I.ok.hd hc) hT fun t et W st hfp hw hk => ?_)
  refine ⟨_, _, _, _, _, _, _, (s.heap.push { cls := .type "tuple", data := .seq #[u, v] }), _, rfl, W, st, hfp, Nat.zero_lt_succ _, hw, hk,
    cmpIn_lt (A := X.A.in1) (s := { s with heap := s.heap.push { cls := .type "tuple", data := .seq #[u, v] } }) (xs := [d, e]) (.cons (reads_keeps kp r1) (.cons (reads_keeps kp r2) .nil)) hal (by show X.A.units + 1 + _ < _; omega), fun z s' hP m => ?_⟩
  obtain ⟨h', tk, rfl, hk'⟩ := moved_old et rfl m
  refine ⟨_, H, I.kept (t' := tk) fun b o eb => hk' b o (kp b o eb), ?_, q⟩
  have hP' : (#[u, v] : Array Value)[argBest (fun i j => dataLt ([d, e].getD i .none) ([d, e].getD j .none)) 1]? = some z := hP
  by_cases hl : dataLt e d = true
  · have : argBest (fun i j => dataLt ([d, e].getD i .none) ([d, e].getD j .none)) 1 = 1 := if_pos hl
    rw [this] at hP'
    cases hP'
    rw [if_pos hl]
    exact rv
  · have : argBest (fun i j => dataLt ([d, e].getD i .none) ([d, e].getD j .none)) 1 = 0 := if_neg hl
    rw [this] at hP'
    cases hP'
    rw [if_neg hl]
    exact ru
def min2A : List D → Res D
  | [.int i, .int j] => .ok (.int (if j < i then j else i))
  | [x, y] => if (x.isFz && y.isFz && alk2 x.py y.py) = true then .ok (if dataLt y.py x.py = true then y else x) else .bad
  | _ => .bad
def max2A : List D → Res D
  | [.int i, .int j] => .ok (.int (if j > i then j else i))
  | [x, y] => if (x.isFz && y.isFz && alk2 x.py y.py) = true then .ok (if dataLt x.py y.py = true then y else x) else .bad
  | _ => .bad
theorem o_min2A : OpN K min2A (fun xs H Q => (∃ i j, xs = [.int i, .int j] ∧ Q (.int (if j < i then j else i)) H) ∨ rMin2 K xs H Q) := by
  intro Sh L H vs ds z Q r h k
  unfold min2A at h
  split at h
  · cases h
    obtain ⟨v, w, rfl, r1, r2⟩ := r.two
    cases r1
    cases r2
    exact .inl ⟨_, _, rfl, k _ _ _ .refl (.int _)⟩
  · split at h
    · rename_i x y _ c
      simp only [Bool.and_eq_true] at c
      cases h
      obtain ⟨v, w, rfl, r1, r2⟩ := r.two
      refine .inr ⟨v, w, _, _, rfl, r1.dp, r2.dp, c.2, ?_⟩
      refine k _ _ emp .refl ?_
      split
      · exact r2.ofFz c.1.2
      · exact r1.ofFz c.1.1
    · cases h
  · cases h
theorem cr_or {f : Value} {r r' : List V → Hp → VK → Prop} (h : CallR X f r) (k : CallR X f r') : CallR X f (fun xs H Q => r xs H Q ∨ r' xs H Q) :=
  fun pins s σ H xs us Q I rv hh => hh.elim (h pins s σ H xs us Q I rv) (k pins s σ H xs us Q I rv)
theorem hu66 {A : Around} {k : Nat} (hr : Room k A) : A.units + 66 < cLine := by have := hr.un; omega
theorem x_min2A {a b : Expr} {os : List Opd} {p pos : Pos} {k : Nat} (hc : X.calm = true) (hr : Room k X.A) (hm : X.mg "min" = none) (ha : EAs X [a, b] os) (hg : Gl X "min" := by rfl) (he : starEach [a, b] X.env = (false, eval a X.env) :: starEach [b] X.env := by rfl) (hpl : (backTo pos (starEach [b] X.env)).any (·.1) = false := by rfl) :
    PE X (.Call (.Name "min" p) [a, b] [] pos) (tE X.K (rN min2A os)) := e_blt (cr_or (call_min2 hc) (cr_min2 hc (hu66 hr))) o_min2A hm ha (hg := hg) (he := he) (hpl := hpl)
end
end Vd
end
section
namespace Vd
open PySem L2
theorem v_zip {o p : Bool} {xs ys : List D} {Q : List D → Prop} : wR (zipD [.lst o xs, .lst p ys]) Q = ((isFzs xs && isFzs ys) = true ∧ Q (List.zipWith pairD xs ys)) := by show wR (ite _ _ _) Q = _; rw [wR_ite, wR_ok]
theorem v_zipT {xs ys : List D} {Q : List D → Prop} : wR (zipD [.tup xs, .tup ys]) Q = ((isFzs xs && isFzs ys) = true ∧ Q (List.zipWith pairD xs ys)) := by show wR (ite _ _ _) Q = _; rw [wR_ite, wR_ok]
theorem v_enum {o : Bool} {xs : List D} {Q : List D → Prop} : wR (enumD [.lst o xs]) Q = (isFzs xs = true ∧ Q (List.zipWith pairD ((List.range xs.length).map fun k : Nat => .int k) xs)) := by show wR (ite _ _ _) Q = _; rw [wR_ite, wR_ok]
theorem v_minI {i j : Int} {Q : D → Prop} : wR (min2A [.int i, .int j]) Q = Q (.int (if j < i then j else i)) := wR_ok
theorem v_maxI {i j : Int} {Q : D → Prop} : wR (max2A [.int i, .int j]) Q = Q (.int (if j > i then j else i)) := wR_ok
theorem v_minT {xs ys : List D} {Q : D → Prop} : wR (min2A [.tup xs, .tup ys]) Q = (alk2 (D.tup xs).py (D.tup ys).py = true ∧ Q (if PySem.W.dataLt (D.tup ys).py (D.tup xs).py = true then .tup ys else .tup xs)) := by
  show wR (ite _ _ _) Q = _; rw [wR_ite, wR_ok]; rfl
theorem v_maxT {xs ys : List D} {Q : D → Prop} : wR (max2A [.tup xs, .tup ys]) Q = (alk2 (D.tup xs).py (D.tup ys).py = true ∧ Q (if PySem.W.dataLt (D.tup xs).py (D.tup ys).py = true then .tup ys else .tup xs)) := by
  show wR (ite _ _ _) Q = _; rw [wR_ite, wR_ok]; rfl
theorem w_CallO {C : CE} {f : Nat} {ms : List Bool} {rs : List ES} {ds : Ds} {Q : D → Ds → Prop} : wE (rCallO C f ms rs) ds Q = wQ rs ds fun xs ds1 => okArgs ms xs = true ∧ wR (C f xs) fun q => Q q.1 ds1 := by
  rw [wE_eq, wQ_eq]; unfold rCallO; rw [wR_bind]; refine wR_ext fun p => ?_; rw [wR_ite, wR_bind]; congr 1; exact wR_ext fun q => wR_ok
def gAug (x : Option Int) (i : Nat) (g : Int → Int → Int) (r : ES) (ds : Ds) (Q : Fl → Ds → Prop) (_ : Bx r := Bx.mk) (_ : Bx Q := Bx.mk) : Prop := match x with
  | some a => wE r ds fun d ds1 => isI d fun b => Q .nx (ds1.set i (.own (.int (g a b))))
  | none => False
theorem w_AugI {i : Nat} {g : Int → Int → Int} {r : ES} {ds : Ds} {Q : Fl → Ds → Prop} : wS (sAugI i g r) ds Q = gAug (intAt ds[i]?) i g r ds Q := by
  rw [wS_eq]; unfold sAugI gAug; generalize intAt ds[i]? = x; cases x
  · exact wR_bad
  · dsimp only; rw [wR_bind, wE_eq]; refine wR_ext fun p => ?_; rcases p with ⟨d, s⟩; cases d <;> first | exact wR_bad | exact wR_ok
theorem g_Aug {a : Int} {i : Nat} {g : Int → Int → Int} {r : ES} {ds : Ds} {Q : Fl → Ds → Prop} : gAug (some a) i g r ds Q = wE r ds fun d ds1 => isI d fun b => Q .nx (ds1.set i (.own (.int (g a b)))) := rfl
theorem intAt1 {a : Int} : intAt (some (.own (.int a))) = some a := rfl
theorem intAt2 {a : Int} : intAt (some (.lk (.int a))) = some a := rfl
theorem v_int {i : Int} {Q : D → Prop} : wR (intD' [.int i]) Q = Q (.int i) := wR_ok
theorem v_intB {b : Bool} {Q : D → Prop} : wR (intD' [.bl b]) Q = Q (.int (if b then 1 else 0)) := wR_ok
theorem v_extT {ys xs : List D} {Q : List D → Prop} : wR (extD (.tup ys) xs) Q = (xs.length + ys.length ≤ sizeLine ∧ Q (xs ++ ys)) := by show wR (ite _ _ _) Q = _; rw [wR_ite, wR_ok]
theorem v_extL {o : Bool} {ys xs : List D} {Q : List D → Prop} : wR (extD (.lst o ys) xs) Q = ((isFzs ys && decide (xs.length + ys.length ≤ sizeLine)) = true ∧ Q (xs ++ ys)) := by show wR (ite _ _ _) Q = _; rw [wR_ite, wR_ok]
theorem okArgs0 : okArgs [] [] = true := rfl
theorem okArgs1 {ms : List Bool} {d : D} {ds : List D} : okArgs (true :: ms) (d :: ds) = okArgs ms ds := rfl
theorem okArgs2 {ms : List Bool} {d : D} {ds : List D} : okArgs (false :: ms) (d :: ds) = (d.isFz && okArgs ms ds) := rfl
end Vd
end
section
namespace Vd
open PySem L2
local macro_rules | `(tactic| and_intros) => `(tactic| simp only [wR_ok, wR_bind, w_C, w_Var, g_Var1, g_Var2, w_Mv, g_Mv1, g_Mv2, w_End, w_ov, w_op, g_Op1, g_Op2, w_oz, g_Oz1, g_Oz2, w_1, w_2, w_Not, w_Isi, w_Isi2, w_Ops0, w_Ops1, w_Tup, w_N, w_Sl, w_noPart, w_aPart, k_Part, w_Chain, isB_bl, cIf_t, cIf_f, cIf_n, w_ChainE, w_If, w_And, w_Or, w_Tru, w_Val, w_BAnd, w_BOr, w_BNot, w_BYes, w_Nil, w_Br, w_Ct, g_nx, g_br, g_ct, g_rt, w_Seq, w_SIf, w_Ret, w_Drop, w_Set, g_Set, g_Tup1, g_Tup2, g_All0, g_All1, isI_int, g_Item, q_Item, w_Q0, w_Q1, w_Lst, w_Par, w_Mut, g_Mu1, g_Mu2, v_append, k_Ext, w_Ext, g_Ex1, g_Ex2, w_Call, w_Args0, w_Args1, w_Args2, g_Ar, k_Call, w_As0, w_As1, w_As2, g_As, putm0, putm1, putm2, w_O0, w_O1, w_O2, q_rt, q_nx, w_fn, slots0, slots1, slots2, aft_nx, aft_ct, aft_br, aft_rt, w_sO0, w_sO1, w_sv, w_sp, g_Sp1, g_Sp2, w_sz, g_Sz1, g_Sz2, w_For, k_For, w_Lc, w_eO0, w_eO1, w_ev, w_ep, w_ez, k_Lc, v_add, v_addL, v_addT, v_sub, v_mul, v_fdiv, v_mod, v_pow, v_neg, v_lt, v_le, v_gt, v_ge, shp_int, shp_bl, shp_non, v_eq, v_ne, v_eqB, g_Ix, v_ixL, v_ixT, g_X, v_idx, v_lenL, v_lenT, v_abs, v_max, v_min, v_tup, v_list, v_listT, v_tuple, v_tupleT, v_slL, v_slT, v_truB, v_truI, v_truT, v_truL, v_truN, v_itL, v_itT, v_r1, v_r2, v_isB, v_isN, v_isntN, List.getElem?_cons_zero, List.getElem?_cons_succ, List.set_cons_zero, List.set_cons_succ, List.length_cons, List.length_nil, List.cons_append, List.nil_append, List.append_nil, List.replicate_succ, List.replicate_zero, D.frz, frzs, D.isFz, isFzs, dwipe, restore, relk, Bool.and_true, Bool.true_and, Bool.and_false, Bool.false_and, Bool.or_true, Bool.true_or, Bool.or_false, Bool.false_or, Bool.not_true, Bool.not_false, and_true, true_and, at_of, ix_of, frzs_ints, isFzs_ints, List.length_map, Int.toNat_natCast, ↓reduceIte, Nat.reduceAdd, Nat.reduceSub, Nat.reduceLT, Nat.reduceLeDiff, Int.reduceLT, Int.reduceLE, Int.reduceEq, Int.reduceAdd, Int.reduceSub, Int.reduceMul, Int.reduceNeg, Int.reduceToNat, Int.reducePow, Int.reduceBNe, Int.reduceBEq, reduceCtorEq, mulOk_l, mulOk_r, fdivOk_s, modOk_p, powOk_s, cast_of, small_le, small_lt, filt_yes, frzs_bls, v_anyB, v_allB, cutL_map, c_isIntDN, c_isIntDB, c_isIntDI, c_isIntDS, c_isIntDT, c_isIntDL, c_isBoolDN, c_isBoolDB, c_isBoolDI, c_isBoolDS, c_isBoolDT, c_isBoolDL, c_isStrDN, c_isStrDB, c_isStrDI, c_isStrDS, c_isStrDT, c_isStrDL, c_isTupDN, c_isTupDB, c_isTupDI, c_isTupDS, c_isTupDT, c_isTupDL, c_isLstDN, c_isLstDB, c_isLstDI, c_isLstDS, c_isLstDT, c_isLstDL, c_D_isNonN, c_D_isNonB, c_D_isNonI, c_D_isNonS, c_D_isNonT, c_D_isNonL, c_frz1N, c_isFz1N, c_frz1B, c_isFz1B, c_frz1I, c_isFz1I, c_frz1S, c_isFz1S, c_frz1T, c_isFz1T, c_frz1L, c_isFz1L, v_zip, v_zipT, v_enum, v_minI, v_maxI, v_minT, v_maxT, w_CallO, w_AugI, g_Aug, intAt1, intAt2, v_int, v_intB, v_extT, v_extL, okArgs0, okArgs1, okArgs2, decide_true, decide_false, Bool.and_self])
local macro_rules | `(tactic| nofun) => `(tactic| simp only [wR_ok, wR_bind, w_C, w_Var, g_Var1, g_Var2, w_Mv, g_Mv1, g_Mv2, w_End, w_ov, w_op, g_Op1, g_Op2, w_oz, g_Oz1, g_Oz2, w_1, w_2, w_Not, w_Isi, w_Isi2, w_Ops0, w_Ops1, w_Tup, w_N, w_Sl, w_noPart, w_aPart, k_Part, w_Chain, isB_bl, cIf_t, cIf_f, cIf_n, w_ChainE, w_If, w_And, w_Or, w_Tru, w_Val, w_BAnd, w_BOr, w_BNot, w_BYes, w_Nil, w_Br, w_Ct, g_nx, g_br, g_ct, g_rt, w_Seq, w_SIf, w_Ret, w_Drop, w_Set, g_Set, g_Tup1, g_Tup2, g_All0, g_All1, isI_int, g_Item, q_Item, w_Q0, w_Q1, w_Lst, w_Par, w_Mut, g_Mu1, g_Mu2, v_append, k_Ext, w_Ext, g_Ex1, g_Ex2, w_Call, w_Args0, w_Args1, w_Args2, g_Ar, k_Call, w_As0, w_As1, w_As2, g_As, putm0, putm1, putm2, w_O0, w_O1, w_O2, q_rt, q_nx, w_fn, slots0, slots1, slots2, aft_nx, aft_ct, aft_br, aft_rt, w_sO0, w_sO1, w_sv, w_sp, g_Sp1, g_Sp2, w_sz, g_Sz1, g_Sz2, w_For, k_For, w_Lc, w_eO0, w_eO1, w_ev, w_ep, w_ez, k_Lc, v_add, v_addL, v_addT, v_sub, v_mul, v_fdiv, v_mod, v_pow, v_neg, v_lt, v_le, v_gt, v_ge, shp_int, shp_bl, shp_non, v_eq, v_ne, v_eqB, g_Ix, v_ixL, v_ixT, g_X, v_idx, v_lenL, v_lenT, v_abs, v_max, v_min, v_tup, v_list, v_listT, v_tuple, v_tupleT, v_slL, v_slT, v_truB, v_truI, v_truT, v_truL, v_truN, v_itL, v_itT, v_r1, v_r2, v_isB, v_isN, v_isntN, List.getElem?_cons_zero, List.getElem?_cons_succ, List.set_cons_zero, List.set_cons_succ, List.length_cons, List.length_nil, List.cons_append, List.nil_append, List.append_nil, List.replicate_succ, List.replicate_zero, D.frz, frzs, D.isFz, isFzs, dwipe, restore, relk, Bool.and_true, Bool.true_and, Bool.and_false, Bool.false_and, Bool.or_true, Bool.true_or, Bool.or_false, Bool.false_or, Bool.not_true, Bool.not_false, and_true, true_and, at_of, ix_of, frzs_ints, isFzs_ints, List.length_map, Int.toNat_natCast, ↓reduceIte, Nat.reduceAdd, Nat.reduceSub, Nat.reduceLT, Nat.reduceLeDiff, Int.reduceLT, Int.reduceLE, Int.reduceEq, Int.reduceAdd, Int.reduceSub, Int.reduceMul, Int.reduceNeg, Int.reduceToNat, Int.reducePow, Int.reduceBNe, Int.reduceBEq, reduceCtorEq, mulOk_l, mulOk_r, fdivOk_s, modOk_p, powOk_s, cast_of, small_le, small_lt, filt_yes, frzs_bls, v_anyB, v_allB, cutL_map, c_isIntDN, c_isIntDB, c_isIntDI, c_isIntDS, c_isIntDT, c_isIntDL, c_isBoolDN, c_isBoolDB, c_isBoolDI, c_isBoolDS, c_isBoolDT, c_isBoolDL, c_isStrDN, c_isStrDB, c_isStrDI, c_isStrDS, c_isStrDT, c_isStrDL, c_isTupDN, c_isTupDB, c_isTupDI, c_isTupDS, c_isTupDT, c_isTupDL, c_isLstDN, c_isLstDB, c_isLstDI, c_isLstDS, c_isLstDT, c_isLstDL, c_D_isNonN, c_D_isNonB, c_D_isNonI, c_D_isNonS, c_D_isNonT, c_D_isNonL, c_frz1N, c_isFz1N, c_frz1B, c_isFz1B, c_frz1I, c_isFz1I, c_frz1S, c_isFz1S, c_frz1T, c_isFz1T, c_frz1L, c_isFz1L, v_zip, v_zipT, v_enum, v_minI, v_maxI, v_minT, v_maxT, w_CallO, w_AugI, g_Aug, intAt1, intAt2, v_int, v_intB, v_extT, v_extL, okArgs0, okArgs1, okArgs2, decide_true, decide_false, Bool.and_self, *])
def Bxs (n : Nat) (d : D) : Prop := ∃ big seed cnt : Int, d = .lst true [.int big, .int seed, .int cnt] ∧ 0 ≤ big ∧ 0 ≤ seed ∧ seed < 2305843009213693951 ∧ 0 ≤ cnt ∧ cnt ≤ n
theorem Bxs.mono {n m : Nat} {d : D} (h : Bxs n d) (k : n ≤ m) : Bxs m d := by
  obtain ⟨a, b, c, e, h1, h2, h3, h4, h5⟩ := h
  exact ⟨a, b, c, e, h1, h2, h3, h4, by omega⟩
end Vd
end
section
namespace Vd
open PySem L2
section
variable {K : PySem.W.Frag} {X : Cx}
theorem tAo_nil {σ H Q} (h : tAo K [] σ H Q) : tNil σ H Q := by
  obtain ⟨Sh, F, L, ds, xs, ds', w, e, k⟩ := h
  cases e
  exact k [] H Sh emp F ⟨(Stp.refl w.wf).weak (.un .nil .refl), .nil_l, .nil, w.sl, .refl⟩
theorem mut_go0 {r : V → List V → Hp → VK → Prop} {f : List D → List D → Res (D × List D)} {i : Nat} (m : MutOk K r f) : ∀ σ H Q, tE K (rMut i f []) σ H Q → tBM0 K "list" r (tVar i) σ H Q := by
  intro σ H Q h
  exact tVar_mono (fun x H ⟨h1, h2⟩ => ⟨h1, tAo_nil h2⟩) (mut_go (rs := []) m σ H Q h)
theorem Reps.reverse {Sh : AS} {H : Hp} : ∀ {vs : List V} {ds : List D} {F : AS}, Reps K Sh H vs ds F → Reps K Sh H vs.reverse ds.reverse F
  | _, _, _, .nil => .nil
  | _, _, F, .cons a b c d e => by
    rw [List.reverse_cons, List.reverse_cons]
    exact ((Reps.reverse b).app (Reps.one a) e.symm).mono (.un d c)
def reverseF : List D → List D → Res (D × List D)
  | [], xs => .ok (.non, xs.reverse)
  | _, _ => .bad
theorem m_reverse : MutOk K rReverse reverseF := by
  intro Sh H a vs xs Gx avs args Ga z ys Q hH rx ra dj e k
  unfold reverseF at e
  split at e
  · cases e
    cases ra
    exact ⟨a, vs, rfl, rfl, hH, k .non _ Gx emp rx.reverse .non .l .nil .nil_r⟩
  · cases e
theorem e_reverse {x : Str} {p apos cpos : Pos} {i : Nat} (hN : X.N[i]? = some x := by rfl) (hv : Vis X.env.scope x := by first | exact Or.inl rfl | exact Or.inr (Or.inl rfl) | exact Or.inr (Or.inr rfl)) (hd : (x == ("__debug__" : Str)) = false := by decide)
    (hcd : (x == ("__classdict__" : Str)) = false := by decide) (hbase : attributeBase (.Name x p) "reverse" X.env (eval (.Name x p) X.env) = eval (.Name x p) X.env := by rfl)
    (hline : (apos.endLine == cpos.line) = true := by rfl) :
    PE X (.Call (.Attribute (.Name x p) "reverse" apos) [] [] cpos) (tE X.K (rMut i reverseF [])) :=
  (pe_bm0 F.plainAttrs_list F.slot_list_reverse F.type_list_reverse mt_reverse (pe_var hN hv hd hcd) hbase hline).imp (mut_go0 m_reverse)
def insertF : List D → List D → Res (D × List D)
  | [.int k, d], xs => if 0 ≤ k ∧ k < 2 ^ 63 ∧ xs.length < sizeLine then .ok (.non, xs.take k.toNat ++ [d] ++ xs.drop k.toNat) else .bad
  | _, _ => .bad
theorem Reps.split {Sh : AS} {H : Hp} : ∀ (n : Nat) {vs : List V} {ds : List D} {F : AS}, Reps K Sh H vs ds F → ∃ F1 F2, Reps K Sh H (vs.take n) (ds.take n) F1 ∧ Reps K Sh H (vs.drop n) (ds.drop n) F2 ∧ Sub F1 F ∧ Sub F2 F ∧ Dj F1 F2
  | 0, _, _, F, h => ⟨emp, F, .nil, h, .nil, .refl, .nil_l⟩
  | _ + 1, _, _, F, .nil => ⟨emp, emp, .nil, .nil, .nil, .nil, .nil_l⟩
  | n + 1, _, _, F, .cons (G1 := G1) (G2 := G2) a b s1 s2 dj => by
    obtain ⟨F1, F2, h1, h2, h3, h4, h5⟩ := Reps.split n b
    refine ⟨un G1 F1, F2, ?_, h2, .un s1 (h3.trans s2), h4.trans s2, Dj.un_l (dj.sub .refl h4) h5⟩
    exact .cons a h1 .l .r (dj.sub .refl h3)
theorem Reps.twoI {Sh : AS} {H : Hp} {vs : List V} {d e : D} {G : AS} (r : Reps K Sh H vs [d, e] G) : ∃ v w G1 G2, vs = [v, w] ∧ Rep K Sh H v d G1 ∧ Rep K Sh H w e G2 ∧ Sub G1 G ∧ Sub G2 G ∧ Dj G1 G2 := by
  cases r with
  | cons a b c d e =>
    obtain ⟨w, rfl, r2⟩ := b.oneI
    exact ⟨_, w, _, _, rfl, a, r2, c, d, e⟩
theorem m_insert : MutOk K (fun x vs H Q => ∃ (l : Addr) (xs : List V) (i : Int) (y : V), x = .ref l ∧ vs = [.int i, y] ∧ H l = some (.lst xs) ∧ xs.length < sizeLine ∧ 0 ≤ i ∧ i < 2 ^ 63 ∧ Q .non (upd H l (.lst (xs.take i.toNat ++ [y] ++ xs.drop i.toNat)))) insertF := by
  intro Sh H a vs xs Gx avs args Ga z ys Q hH rx ra dj e k
  unfold insertF at e
  split at e
  · split at e
    · rename_i i d hl
      cases e
      obtain ⟨v, w, G1, G2, rfl, r1, r2, s1, s2, dj2⟩ := ra.twoI
      cases r1
      obtain ⟨F1, F2, t1, t2, u1, u2, dj3⟩ := rx.split i.toNat
      refine ⟨a, vs, i, w, rfl, rfl, hH, by rw [rx.length]; exact hl.2.2, hl.1, hl.2.1, k .non _ (un (un F1 G2) F2) emp ?_ .non ?_ .nil .nil_r⟩
      · exact (t1.app (Reps.one r2) (dj.sub u1 s2)).app t2 (Dj.un_l dj3 (dj.symm.sub s2 u2))
      · exact .un (.un (u1.trans .l) (s2.trans .r)) (u2.trans .l)
    · cases e
  · cases e
theorem e_insert {x : Str} {e1 e2 : Expr} {p apos cpos : Pos} {i : Nat} {r1 r2 : ES} (h1 : PE X e1 (tE X.K r1)) (h2 : PE X e2 (tE X.K r2)) (hN : X.N[i]? = some x := by rfl) (hv : Vis X.env.scope x := by first | exact Or.inl rfl | exact Or.inr (Or.inl rfl) | exact Or.inr (Or.inr rfl)) (hd : (x == ("__debug__" : Str)) = false := by decide)
    (hcd : (x == ("__classdict__" : Str)) = false := by decide) (hbase : attributeBase (.Name x p) "insert" X.env (eval (.Name x p) X.env) = eval (.Name x p) X.env := by rfl)
    (hfew : ((backTo cpos (starEach [e1, e2] X.env)).all (fun x => !x.1) && (backToKw cpos (keywordEach [] X.env)).all (fun x => x.1.isSome)
      && decide ([e1, e2].length + ([] : List Keyword).length + (if ([] : List Keyword).isEmpty then 0 else 1) < 30)) = true := by rfl)
    (hline : (apos.endLine == cpos.line) = true := by rfl) (hs : starEach [e1, e2] X.env = (false, eval e1 X.env) :: starEach [e2] X.env := by rfl) (hs2 : starEach [e2] X.env = (false, eval e2 X.env) :: starEach [] X.env := by rfl)
    (hplain : (backTo cpos (starEach [e2] X.env)).any (·.1) = false := by rfl) :
    PE X (.Call (.Attribute (.Name x p) "insert" apos) [e1, e2] [] cpos) (tE X.K (rMut i insertF [r1, r2])) :=
  (pe_bm F.plainAttrs_list F.slot_list_insert F.type_list_insert mt_insert (pe_var hN hv hd hcd) (ao_cons h1 (ao_cons h2 ao_nil hs2) hs) hbase hfew hline hs hplain).imp (mut_go m_insert)
def firstAt (d : D) : List D → Option Nat
  | [] => none
  | x :: xs => if PyData.eqv x.py d.py = true then some 0 else (firstAt d xs).map (· + 1)
def indexD (d : D) (e : D) : Res D := match d with
  | .lst o xs => match firstAt e xs with
    | some j => if (shp (.lst o xs) && shp e) = true then .ok (.int (j : Nat)) else .bad
    | none => .bad
  | _ => .bad
def kIdx (a : Opd) (x : D) : ES := match x with
  | .lst oo xs => a fun y => rEnd (indexD (.lst oo xs) y)
  | _ => fun _ => .bad
def rIdx (o a : Opd) : ES := o (kIdx a)
end
theorem w_Idx {o a : Opd} {ds : Ds} {Q : D → Ds → Prop} : wE (rIdx o a) ds Q = wE (o (kIdx a)) ds Q := rfl
theorem k_Idx {a : Opd} {oo : Bool} {xs : List D} {ds : Ds} {Q : D → Ds → Prop} : wE (kIdx a (.lst oo xs)) ds Q = wE (a fun y => rEnd (indexD (.lst oo xs) y)) ds Q := rfl
theorem v_reverse {xs : List D} {Q : D × List D → Prop} : wR (reverseF [] xs) Q = Q (.non, xs.reverse) := wR_ok
theorem v_insert {i : Int} {d : D} {xs : List D} {Q : D × List D → Prop} : wR (insertF [.int i, d] xs) Q = ((0 ≤ i ∧ i < 2 ^ 63 ∧ xs.length < sizeLine) ∧ Q (.non, xs.take i.toNat ++ [d] ++ xs.drop i.toNat)) := by show wR (ite _ _ _) Q = _; rw [wR_ite, wR_ok]
end Vd
end
section
namespace Vd
open PySem L2
noncomputable instance decD : DecidableEq D := fun _ _ => Classical.propDecidable _
mutual
def D.pl : Nat → D → Bool
  | _, .non => true
  | _, .int _ => true
  | _, .str x => PySem.PyData.canLay0 (.str x)
  | n + 1, .tup xs => pls n xs
  | _, _ => false
def pls : Nat → List D → Bool
  | _, [] => true
  | n, x :: xs => x.pl n && pls n xs
end
theorem pls_all {n : Nat} : ∀ {xs : List D}, pls n xs = xs.all (D.pl n)
  | [] => by simp [pls]
  | x :: xs => by simp [pls, pls_all (xs := xs)]
theorem pl_tup {n : Nat} {xs : List D} (h : ∀ x ∈ xs, x.pl n = true) : (D.tup xs).pl (n + 1) = true := by
  rw [D.pl, pls_all, List.all_eq_true]; exact h
mutual
theorem pl_lay : ∀ {d : D} {n : Nat}, d.pl n = true → d.py.canLay0 = true ∧ d.py.depth ≤ n
  | .non, _, _ => by simp [D.py, PyData.canLay0, PyData.depth]
  | .int _, _, _ => by simp [D.py, PyData.canLay0, PyData.depth]
  | .str x, _, h => by simp [D.py, PyData.depth]; simpa [D.pl] using h
  | .tup xs, n, h => by
    cases n with
    | zero => simp [D.pl] at h
    | succ n =>
      rw [D.pl] at h
      have := pls_lay h
      simp only [D.py, PyData.canLay0, PyData.depth]
      exact ⟨this.1, by omega⟩
  | .bl _, _, h => by simp [D.pl] at h
  | .lst _ _, _, h => by simp [D.pl] at h
theorem pls_lay : ∀ {xs : List D} {n : Nat}, pls n xs = true → PyData.canLayAll0 (pys xs) = true ∧ PyData.depthAll (pys xs) ≤ n
  | [], _, _ => by simp [pys, PyData.canLayAll0, PyData.depthAll]
  | x :: xs, n, h => by
    rw [pls, Bool.and_eq_true] at h
    have h1 := pl_lay h.1
    have h2 := pls_lay h.2
    simp only [pys, PyData.canLayAll0, PyData.depthAll, Bool.and_eq_true]
    exact ⟨⟨h1.1, h2.1⟩, by omega⟩
end
theorem pl_shp {d : D} {n : Nat} (h : d.pl n = true) (k : n ≤ 64) : shp d = true := by
  have := pl_lay h
  unfold shp SeqAt.shaped
  rw [this.1, Bool.true_and]
  exact decide_eq_true (by omega)
theorem shp_tl {o : Bool} {xs : List D} {n : Nat} (h : ∀ x ∈ xs, x.pl n = true) (k : n ≤ 63) : shp (.lst o xs) = true := by
  have : pls n xs = true := by rw [pls_all, List.all_eq_true]; exact h
  have := pls_lay this
  unfold shp SeqAt.shaped
  simp only [D.py, PyData.canLay0, PyData.depth]
  rw [this.1, Bool.true_and]
  exact decide_eq_true (by omega)
mutual
theorem eqv_pl : ∀ {d e : D} {n m : Nat}, d.pl n = true → e.pl m = true → PyData.eqv d.py e.py = decide (d = e)
  | .non, e, n, m, h, k => by cases e <;> simp_all [D.py, PyData.eqv, D.pl]
  | .int i, e, n, m, h, k => by cases e <;> simp_all [D.py, PyData.eqv, D.pl] <;> rfl
  | .str x, e, n, m, h, k => by cases e <;> simp_all [D.py, PyData.eqv, D.pl] <;> rfl
  | .tup xs, e, n, m, h, k => by
    cases e with
    | tup ys =>
      cases n with
      | zero => simp [D.pl] at h
      | succ n =>
        cases m with
        | zero => simp [D.pl] at k
        | succ m =>
          rw [D.pl] at h k
          simp only [D.py, PyData.eqv]
          rw [eqv_pls h k]
          congr 1
          simp
    | _ => simp_all [D.py, PyData.eqv, D.pl]
  | .bl _, _, _, _, h, _ => by simp [D.pl] at h
  | .lst _ _, _, _, _, h, _ => by simp [D.pl] at h
theorem eqv_pls : ∀ {xs ys : List D} {n m : Nat}, pls n xs = true → pls m ys = true → PyData.eqvAll (pys xs) (pys ys) = decide (xs = ys)
  | [], [], _, _, _, _ => by simp [pys, PyData.eqvAll]
  | [], _ :: _, _, _, _, _ => by simp [pys, PyData.eqvAll]
  | _ :: _, [], _, _, _, _ => by simp [pys, PyData.eqvAll]
  | x :: xs, y :: ys, n, m, h, k => by
    rw [pls, Bool.and_eq_true] at h k
    simp only [pys, PyData.eqvAll]
    rw [eqv_pl h.1 k.1, eqv_pls h.2 k.2]
    by_cases h1 : x = y <;> by_cases h2 : xs = ys <;> simp [h1, h2]
end
theorem eq_pl {d e : D} {n m : Nat} (h : d.pl n = true) (k : e.pl m = true) (hn : n ≤ 64) (hm : m ≤ 64) : eqD d e = .ok (.bl (decide (d = e))) := by
  unfold eqD; rw [pl_shp h hn, pl_shp k hm, eqv_pl h k]; rfl
theorem ne_pl {d e : D} {n m : Nat} (h : d.pl n = true) (k : e.pl m = true) (hn : n ≤ 64) (hm : m ≤ 64) : neD d e = .ok (.bl (!decide (d = e))) := by
  unfold neD; rw [pl_shp h hn, pl_shp k hm, eqv_pl h k]; rfl
theorem any_pl {d : D} {n m : Nat} : ∀ {es : List D}, d.pl n = true → (∀ e ∈ es, e.pl m = true) → inL d es = decide (d ∈ es)
  | [], _, _ => by simp [inL]
  | x :: xs, h, k => by
    have ih := any_pl (es := xs) h fun e he => k e (List.mem_cons_of_mem _ he)
    unfold inL at ih ⊢
    rw [List.any_cons, ih, eqv_pl (k x List.mem_cons_self) h]
    by_cases h1 : x = d
    · simp [h1]
    · have h2 : ¬ d = x := fun e => h1 e.symm
      simp [h1, h2]
theorem in_plL {o neg : Bool} {d : D} {es : List D} {n m : Nat} (h : d.pl n = true) (k : ∀ e ∈ es, e.pl m = true) (hn : n ≤ 64) (hm : m ≤ 63) : inD neg d (.lst o es) = .ok (.bl (decide (d ∈ es) != neg)) := by
  unfold inD; dsimp only; rw [pl_shp h hn, shp_tl k hm, any_pl h k]; rfl
theorem in_plT {neg : Bool} {d : D} {es : List D} {n m : Nat} (h : d.pl n = true) (k : ∀ e ∈ es, e.pl m = true) (hn : n ≤ 64) (hm : m ≤ 63) : inD neg d (.tup es) = .ok (.bl (decide (d ∈ es) != neg)) := by
  unfold inD; dsimp only; rw [pl_shp h hn, pl_shp (pl_tup k) (by omega), any_pl h k]; rfl
end Vd
end
section
namespace Vd
open PySem L2
local macro_rules | `(tactic| and_intros) => `(tactic| simp only [wR_ok, wR_bind, w_C, w_Var, g_Var1, g_Var2, w_Mv, g_Mv1, g_Mv2, w_End, w_ov, w_op, g_Op1, g_Op2, w_oz, g_Oz1, g_Oz2, w_1, w_2, w_Not, w_Isi, w_Isi2, w_Ops0, w_Ops1, w_Tup, w_N, w_Sl, w_noPart, w_aPart, k_Part, w_Chain, isB_bl, cIf_t, cIf_f, cIf_n, w_ChainE, w_If, w_And, w_Or, w_Tru, w_Val, w_BAnd, w_BOr, w_BNot, w_BYes, w_Nil, w_Br, w_Ct, g_nx, g_br, g_ct, g_rt, w_Seq, w_SIf, w_Ret, w_Drop, w_Set, g_Set, g_Tup1, g_Tup2, g_All0, g_All1, isI_int, g_Item, q_Item, w_Q0, w_Q1, w_Lst, w_Par, w_Mut, g_Mu1, g_Mu2, v_append, k_Ext, w_Ext, g_Ex1, g_Ex2, w_Call, w_Args0, w_Args1, w_Args2, g_Ar, k_Call, w_As0, w_As1, w_As2, g_As, putm0, putm1, putm2, w_O0, w_O1, w_O2, q_rt, q_nx, w_fn, slots0, slots1, slots2, aft_nx, aft_ct, aft_br, aft_rt, w_sO0, w_sO1, w_sv, w_sp, g_Sp1, g_Sp2, w_sz, g_Sz1, g_Sz2, w_For, k_For, w_Lc, w_eO0, w_eO1, w_ev, w_ep, w_ez, k_Lc, v_add, v_addL, v_addT, v_sub, v_mul, v_fdiv, v_mod, v_pow, v_neg, v_lt, v_le, v_gt, v_ge, shp_int, shp_bl, shp_non, v_eq, v_ne, v_eqB, g_Ix, v_ixL, v_ixT, g_X, v_idx, v_lenL, v_lenT, v_abs, v_max, v_min, v_tup, v_list, v_listT, v_tuple, v_tupleT, v_slL, v_slT, v_truB, v_truI, v_truT, v_truL, v_truN, v_itL, v_itT, v_r1, v_r2, v_isB, v_isN, v_isntN, List.getElem?_cons_zero, List.getElem?_cons_succ, List.set_cons_zero, List.set_cons_succ, List.length_cons, List.length_nil, List.cons_append, List.nil_append, List.append_nil, List.replicate_succ, List.replicate_zero, D.frz, frzs, D.isFz, isFzs, dwipe, restore, relk, Bool.and_true, Bool.true_and, Bool.and_false, Bool.false_and, Bool.or_true, Bool.true_or, Bool.or_false, Bool.false_or, Bool.not_true, Bool.not_false, and_true, true_and, at_of, ix_of, frzs_ints, isFzs_ints, List.length_map, Int.toNat_natCast, ↓reduceIte, Nat.reduceAdd, Nat.reduceSub, Nat.reduceLT, Nat.reduceLeDiff, Int.reduceLT, Int.reduceLE, Int.reduceEq, Int.reduceAdd, Int.reduceSub, Int.reduceMul, Int.reduceNeg, Int.reduceToNat, Int.reducePow, Int.reduceBNe, Int.reduceBEq, reduceCtorEq, mulOk_l, mulOk_r, fdivOk_s, modOk_p, powOk_s, cast_of, small_le, small_lt, filt_yes, frzs_bls, v_anyB, v_allB, cutL_map, c_isIntDN, c_isIntDB, c_isIntDI, c_isIntDS, c_isIntDT, c_isIntDL, c_isBoolDN, c_isBoolDB, c_isBoolDI, c_isBoolDS, c_isBoolDT, c_isBoolDL, c_isStrDN, c_isStrDB, c_isStrDI, c_isStrDS, c_isStrDT, c_isStrDL, c_isTupDN, c_isTupDB, c_isTupDI, c_isTupDS, c_isTupDT, c_isTupDL, c_isLstDN, c_isLstDB, c_isLstDI, c_isLstDS, c_isLstDT, c_isLstDL, c_D_isNonN, c_D_isNonB, c_D_isNonI, c_D_isNonS, c_D_isNonT, c_D_isNonL, c_frz1N, c_isFz1N, c_frz1B, c_isFz1B, c_frz1I, c_isFz1I, c_frz1S, c_isFz1S, c_frz1T, c_isFz1T, c_frz1L, c_isFz1L, v_zip, v_zipT, v_enum, v_minI, v_maxI, v_minT, v_maxT, w_CallO, w_AugI, g_Aug, intAt1, intAt2, v_int, v_intB, v_extT, v_extL, okArgs0, okArgs1, okArgs2, w_Idx, k_Idx, v_reverse, v_insert, decide_true, decide_false, Bool.and_self])
local macro_rules | `(tactic| nofun) => `(tactic| simp only [wR_ok, wR_bind, w_C, w_Var, g_Var1, g_Var2, w_Mv, g_Mv1, g_Mv2, w_End, w_ov, w_op, g_Op1, g_Op2, w_oz, g_Oz1, g_Oz2, w_1, w_2, w_Not, w_Isi, w_Isi2, w_Ops0, w_Ops1, w_Tup, w_N, w_Sl, w_noPart, w_aPart, k_Part, w_Chain, isB_bl, cIf_t, cIf_f, cIf_n, w_ChainE, w_If, w_And, w_Or, w_Tru, w_Val, w_BAnd, w_BOr, w_BNot, w_BYes, w_Nil, w_Br, w_Ct, g_nx, g_br, g_ct, g_rt, w_Seq, w_SIf, w_Ret, w_Drop, w_Set, g_Set, g_Tup1, g_Tup2, g_All0, g_All1, isI_int, g_Item, q_Item, w_Q0, w_Q1, w_Lst, w_Par, w_Mut, g_Mu1, g_Mu2, v_append, k_Ext, w_Ext, g_Ex1, g_Ex2, w_Call, w_Args0, w_Args1, w_Args2, g_Ar, k_Call, w_As0, w_As1, w_As2, g_As, putm0, putm1, putm2, w_O0, w_O1, w_O2, q_rt, q_nx, w_fn, slots0, slots1, slots2, aft_nx, aft_ct, aft_br, aft_rt, w_sO0, w_sO1, w_sv, w_sp, g_Sp1, g_Sp2, w_sz, g_Sz1, g_Sz2, w_For, k_For, w_Lc, w_eO0, w_eO1, w_ev, w_ep, w_ez, k_Lc, v_add, v_addL, v_addT, v_sub, v_mul, v_fdiv, v_mod, v_pow, v_neg, v_lt, v_le, v_gt, v_ge, shp_int, shp_bl, shp_non, v_eq, v_ne, v_eqB, g_Ix, v_ixL, v_ixT, g_X, v_idx, v_lenL, v_lenT, v_abs, v_max, v_min, v_tup, v_list, v_listT, v_tuple, v_tupleT, v_slL, v_slT, v_truB, v_truI, v_truT, v_truL, v_truN, v_itL, v_itT, v_r1, v_r2, v_isB, v_isN, v_isntN, List.getElem?_cons_zero, List.getElem?_cons_succ, List.set_cons_zero, List.set_cons_succ, List.length_cons, List.length_nil, List.cons_append, List.nil_append, List.append_nil, List.replicate_succ, List.replicate_zero, D.frz, frzs, D.isFz, isFzs, dwipe, restore, relk, Bool.and_true, Bool.true_and, Bool.and_false, Bool.false_and, Bool.or_true, Bool.true_or, Bool.or_false, Bool.false_or, Bool.not_true, Bool.not_false, and_true, true_and, at_of, ix_of, frzs_ints, isFzs_ints, List.length_map, Int.toNat_natCast, ↓reduceIte, Nat.reduceAdd, Nat.reduceSub, Nat.reduceLT, Nat.reduceLeDiff, Int.reduceLT, Int.reduceLE, Int.reduceEq, Int.reduceAdd, Int.reduceSub, Int.reduceMul, Int.reduceNeg, Int.reduceToNat, Int.reducePow, Int.reduceBNe, Int.reduceBEq, reduceCtorEq, mulOk_l, mulOk_r, fdivOk_s, modOk_p, powOk_s, cast_of, small_le, small_lt, filt_yes, frzs_bls, v_anyB, v_allB, cutL_map, c_isIntDN, c_isIntDB, c_isIntDI, c_isIntDS, c_isIntDT, c_isIntDL, c_isBoolDN, c_isBoolDB, c_isBoolDI, c_isBoolDS, c_isBoolDT, c_isBoolDL, c_isStrDN, c_isStrDB, c_isStrDI, c_isStrDS, c_isStrDT, c_isStrDL, c_isTupDN, c_isTupDB, c_isTupDI, c_isTupDS, c_isTupDT, c_isTupDL, c_isLstDN, c_isLstDB, c_isLstDI, c_isLstDS, c_isLstDT, c_isLstDL, c_D_isNonN, c_D_isNonB, c_D_isNonI, c_D_isNonS, c_D_isNonT, c_D_isNonL, c_frz1N, c_isFz1N, c_frz1B, c_isFz1B, c_frz1I, c_isFz1I, c_frz1S, c_isFz1S, c_frz1T, c_isFz1T, c_frz1L, c_isFz1L, v_zip, v_zipT, v_enum, v_minI, v_maxI, v_minT, v_maxT, w_CallO, w_AugI, g_Aug, intAt1, intAt2, v_int, v_intB, v_extT, v_extL, okArgs0, okArgs1, okArgs2, w_Idx, k_Idx, v_reverse, v_insert, decide_true, decide_false, Bool.and_self, *])
def b_greatest_in_both (C : CE) : SS :=
  sSeq (sPar 0 1 [rN absD [op 0], rN absD [op 1]]) (sSeq (sWhile (bVal (r2 neD (op 1) (ov (rC (.int 0))))) (sPar 0 1 [rVar 1, r2 modD (op 0) (op 1)])) (sRet (rVar 0)))
class H_greatest_in_both (sem : Nat → CE) : Prop where
  h : ∀ (n : Nat) (args : List D), sem (n + 1) 0 args = fnRun 2 [false, false] (b_greatest_in_both (sem n)) args
def b_number_of (C : CE) : SS :=
  sSeq (sSet (gSet 2) (rCall C 0 [.vw (ov (rVar 0)), .vw (ov (rVar 1))])) (sSeq (sIf (bVal (r2 eqD (op 1) (op 2))) (sRet (r2 fdivD (op 0) (op 2))) (sNil)) (sRet (rTup [ov (r2 fdivD (op 0) (op 2)), ov (r2 fdivD (op 1) (op 2))])))
class H_number_of (sem : Nat → CE) : Prop where
  h : ∀ (n : Nat) (args : List D), sem (n + 1) 1 args = fnRun 3 [false, false] (b_number_of (sem n)) args
def b_top_of (C : CE) : SS :=
  sSeq (sIf (bTru (ov (rIsi isTupD (op 0)))) (sRet (r2 itemD (oz 0) (ov (rC (.int 0))))) (sNil)) (sRet (rVar 0))
class H_top_of (sem : Nat → CE) : Prop where
  h : ∀ (n : Nat) (args : List D), sem (n + 1) 2 args = fnRun 1 [false] (b_top_of (sem n)) args
def b_below_of (C : CE) : SS :=
  sSeq (sIf (bTru (ov (rIsi isTupD (op 0)))) (sRet (r2 itemD (oz 0) (ov (rC (.int 1))))) (sNil)) (sRet (rC (.int 1)))
class H_below_of (sem : Nat → CE) : Prop where
  h : ∀ (n : Nat) (args : List D), sem (n + 1) 3 args = fnRun 1 [false] (b_below_of (sem n)) args
def b_plus (C : CE) : SS :=
  sSeq (sPar 2 3 [rCall C 2 [.vw (ov (rVar 0))], rCall C 3 [.vw (oz 0)]]) (sSeq (sPar 4 5 [rCall C 2 [.vw (ov (rVar 1))], rCall C 3 [.vw (oz 1)]]) (sRet (rCall C 1 [.vw (ov (r2 addD (ov (r2 mulD (op 2) (op 5))) (ov (r2 mulD (op 4) (op 3))))), .vw (ov (r2 mulD (op 3) (op 5)))])))
class H_plus (sem : Nat → CE) : Prop where
  h : ∀ (n : Nat) (args : List D), sem (n + 1) 4 args = fnRun 6 [false, false] (b_plus (sem n)) args
def b_minus (C : CE) : SS :=
  sRet (rCall C 4 [.vw (ov (rVar 0)), .vw (ov (rCall C 1 [.vw (ov (r1 negD (ov (rCall C 2 [.vw (ov (rVar 1))])))), .vw (ov (rCall C 3 [.vw (oz 1)]))]))])
class H_minus (sem : Nat → CE) : Prop where
  h : ∀ (n : Nat) (args : List D), sem (n + 1) 35 args = fnRun 2 [false, false] (b_minus (sem n)) args
def b_times (C : CE) : SS :=
  sRet (rCall C 1 [.vw (ov (r2 mulD (ov (rCall C 2 [.vw (ov (rVar 0))])) (ov (rCall C 2 [.vw (ov (rVar 1))])))), .vw (ov (r2 mulD (ov (rCall C 3 [.vw (oz 0)])) (ov (rCall C 3 [.vw (oz 1)]))))])
class H_times (sem : Nat → CE) : Prop where
  h : ∀ (n : Nat) (args : List D), sem (n + 1) 36 args = fnRun 2 [false, false] (b_times (sem n)) args
def b_over (C : CE) : SS :=
  sSeq (sSet (gSet 2) (r2 mulD (ov (rCall C 2 [.vw (ov (rVar 0))])) (ov (rCall C 3 [.vw (oz 1)])))) (sSeq (sSet (gSet 3) (r2 mulD (ov (rCall C 3 [.vw (oz 0)])) (ov (rCall C 2 [.vw (ov (rVar 1))])))) (sSeq (sIf (bVal (r2 ltD (op 3) (ov (rC (.int 0))))) (sRet (rCall C 1 [.vw (ov (r1 negD (op 2))), .vw (ov (r1 negD (op 3)))])) (sNil)) (sRet (rCall C 1 [.vw (ov (rVar 2)), .vw (ov (rVar 3))]))))
class H_over (sem : Nat → CE) : Prop where
  h : ∀ (n : Nat) (args : List D), sem (n + 1) 5 args = fnRun 4 [false, false] (b_over (sem n)) args
def b_before (C : CE) : SS :=
  sRet (r2 ltD (ov (r2 mulD (ov (rCall C 2 [.vw (ov (rVar 0))])) (ov (rCall C 3 [.vw (oz 1)])))) (ov (r2 mulD (ov (rCall C 2 [.vw (ov (rVar 1))])) (ov (rCall C 3 [.vw (oz 0)])))))
class H_before (sem : Nat → CE) : Prop where
  h : ∀ (n : Nat) (args : List D), sem (n + 1) 37 args = fnRun 2 [false, false] (b_before (sem n)) args
def b_is_whole (C : CE) : SS :=
  sRet (rAnd (rIsi isIntD (op 0)) (rNot (ov (rIsi isBoolD (op 0)))))
class H_is_whole (sem : Nat → CE) : Prop where
  h : ∀ (n : Nat) (args : List D), sem (n + 1) 33 args = fnRun 1 [false] (b_is_whole (sem n)) args
def b_is_number (C : CE) : SS :=
  sSeq (sIf (bTru (ov (rCall C 33 [.vw (op 0)]))) (sRet (rC (.bl true))) (sNil)) (sSeq (sIf (bOr (bNot (bTru (ov (rIsi isTupD (op 0))))) (bOr (bVal (r2 neD (ov (rN lenD [op 0])) (ov (rC (.int 2))))) (bOr (bNot (bTru (ov (rCall C 33 [.vw (ov (r2 itemD (oz 0) (ov (rC (.int 0)))))])))) (bNot (bTru (ov (rCall C 33 [.vw (ov (r2 itemD (oz 0) (ov (rC (.int 1)))))]))))))) (sRet (rC (.bl false))) (sNil)) (sRet (rAnd (r2 geD (ov (r2 itemD (oz 0) (ov (rC (.int 1))))) (ov (rC (.int 2)))) (r2 eqD (ov (rCall C 0 [.vw (ov (r2 itemD (oz 0) (ov (rC (.int 0))))), .vw (ov (r2 itemD (oz 0) (ov (rC (.int 1)))))])) (ov (rC (.int 1)))))))
class H_is_number (sem : Nat → CE) : Prop where
  h : ∀ (n : Nat) (args : List D), sem (n + 1) 34 args = fnRun 1 [false] (b_is_number (sem n)) args

def b_least_of (C : CE) : SS :=
  sSeq (sSet (gSet 1) (r2 itemD (oz 0) (ov (rC (.int 0))))) (sSeq (sFor [.v (rSl (oz 0) (aPart (ov (rC (.int 1)))) noPart)] itemsD (gSet 2) (sIf (bTru (ov (rCall C 37 [.vw (ov (rVar 2)), .vw (ov (rVar 1))]))) (sSet (gSet 1) (rVar 2)) (sNil))) (sRet (rMv 1)))
class H_least_of (sem : Nat → CE) : Prop where
  h : ∀ (n : Nat) (args : List D), sem (n + 1) 49 args = fnRun 3 [false] (b_least_of (sem n)) args
def b_greatest_of (C : CE) : SS :=
  sSeq (sSet (gSet 1) (r2 itemD (oz 0) (ov (rC (.int 0))))) (sSeq (sFor [.v (rSl (oz 0) (aPart (ov (rC (.int 1)))) noPart)] itemsD (gSet 2) (sIf (bTru (ov (rCall C 37 [.vw (ov (rVar 1)), .vw (ov (rVar 2))]))) (sSet (gSet 1) (rVar 2)) (sNil))) (sRet (rMv 1)))
class H_greatest_of (sem : Nat → CE) : Prop where
  h : ∀ (n : Nat) (args : List D), sem (n + 1) 50 args = fnRun 3 [false] (b_greatest_of (sem n)) args

variable {sem : Nat → CE} {s : Nat} {x y : D}
theorem F_gcd [H_greatest_in_both sem] (n : Nat) {a b : Int} {s : Nat} (ha : a.natAbs < 2 ^ s) (hb : b.natAbs < 2 ^ s) (hs : s ≤ 1000000) : sem (n + 1) 0 [.int a, .int b] = .ok (.int (Int.gcd a b), []) := by
  rw [H_greatest_in_both.h (sem := sem)]; exact gcd_ok ha hb hs
theorem F_top [H_top_of sem] (n : Nat) (h : Num s x) : sem (n + 1) 2 [x] = .ok (.int (topD x), []) := by rw [H_top_of.h (sem := sem)]; exact top_ok h
theorem F_bel [H_below_of sem] (n : Nat) (h : Num s x) : sem (n + 1) 3 [x] = .ok (.int (belD x), []) := by rw [H_below_of.h (sem := sem)]; exact bel_ok h
def ltN (x y : D) : Prop := topD x * belD y < topD y * belD x
instance decLtN (x y : D) : Decidable (ltN x y) := inferInstanceAs (Decidable (_ < _))
theorem cop_dvd {a b c : Int} (h : b ∣ a * c) (g : Int.gcd a b = 1) : b ∣ c := by
  rw [← Int.natAbs_dvd_natAbs] at h ⊢
  rw [Int.natAbs_mul] at h
  exact Nat.Coprime.dvd_of_dvd_mul_left (by rw [Nat.coprime_comm]; exact g) h
theorem num_ext {u : Nat} (hx : Num s x) (hy : Num u y) (e : topD x * belD y = topD y * belD x) : x = y := by
  have key : ∀ {a b c d : Int}, 0 < b → 0 < d → Int.gcd a b = 1 → Int.gcd c d = 1 → a * d = c * b → a = c ∧ b = d := by
    intro a b c d hb hd h1 h2 e
    have d1 : b ∣ d := by
      have : b ∣ a * d := ⟨c, by rw [e, Int.mul_comm]⟩
      exact cop_dvd this h1
    have d2 : d ∣ b := by
      have : d ∣ c * b := ⟨a, by rw [← e, Int.mul_comm]⟩
      exact cop_dvd this h2
    have e2 : b = d := Int.dvd_antisymm (by omega) (by omega) d1 d2
    subst e2
    exact ⟨Int.eq_of_mul_eq_mul_right (by omega) e, rfl⟩
  rcases hx.cases with ⟨a, rfl, _⟩ | ⟨a, b, rfl, h1, h2, _⟩ <;> rcases hy.cases with ⟨c, rfl, _⟩ | ⟨c, d, rfl, h3, h4, _⟩ <;> simp only [topD, belD, Int.mul_one] at e
  · rw [e]
  · have h5 := key (a := a) (b := 1) (c := c) (d := d) (by omega) (by omega) (by simp) h4 (by rw [e, Int.mul_one])
    omega
  · have h5 := key (a := a) (b := b) (c := c) (d := 1) (by omega) (by omega) h2 (by simp) (by rw [Int.mul_one, e])
    omega
  · obtain ⟨rfl, rfl⟩ := key (a := a) (b := b) (c := c) (d := d) (by omega) (by omega) h2 h4 e
    rfl
theorem Num.pl (h : Num s x) : x.pl 1 = true := by
  rcases h.cases with ⟨a, rfl, _⟩ | ⟨a, b, rfl, _⟩ <;> simp [D.pl, pls]
theorem ltN_irr : ¬ ltN x x := by unfold ltN; omega
end Vd
end
section
namespace Vd
open PySem L2
theorem str_ok {x y : PySem.Str} (hx : PyData.canLay0 (.str x) = true) (hy : PyData.canLay0 (.str y) = true) : eqD (.str x) (.str y) = .ok (.bl (decide (x = y))) := by
  rw [eq_pl (n := 0) (m := 0) (by simpa [D.pl] using hx) (by simpa [D.pl] using hy) (by omega) (by omega)]
  congr 2; simp
theorem kd_pp : eqD (.str ("points" : PySem.Str)) (.str ("points" : PySem.Str)) = .ok (.bl true) := by rw [str_ok (by decide +kernel) (by decide +kernel)]; rfl
theorem kd_rp : eqD (.str ("rows" : PySem.Str)) (.str ("points" : PySem.Str)) = .ok (.bl false) := by rw [str_ok (by decide +kernel) (by decide +kernel)]; rfl
theorem kd_tp : eqD (.str ("patch" : PySem.Str)) (.str ("points" : PySem.Str)) = .ok (.bl false) := by rw [str_ok (by decide +kernel) (by decide +kernel)]; rfl
theorem kd_pt : eqD (.str ("points" : PySem.Str)) (.str ("patch" : PySem.Str)) = .ok (.bl false) := by rw [str_ok (by decide +kernel) (by decide +kernel)]; rfl
theorem kd_rt : eqD (.str ("rows" : PySem.Str)) (.str ("patch" : PySem.Str)) = .ok (.bl false) := by rw [str_ok (by decide +kernel) (by decide +kernel)]; rfl
theorem kd_tt : eqD (.str ("patch" : PySem.Str)) (.str ("patch" : PySem.Str)) = .ok (.bl true) := by rw [str_ok (by decide +kernel) (by decide +kernel)]; rfl
theorem kd_pr : eqD (.str ("points" : PySem.Str)) (.str ("rows" : PySem.Str)) = .ok (.bl false) := by rw [str_ok (by decide +kernel) (by decide +kernel)]; rfl
theorem kd_rr : eqD (.str ("rows" : PySem.Str)) (.str ("rows" : PySem.Str)) = .ok (.bl true) := by rw [str_ok (by decide +kernel) (by decide +kernel)]; rfl
theorem kd_tr : eqD (.str ("patch" : PySem.Str)) (.str ("rows" : PySem.Str)) = .ok (.bl false) := by rw [str_ok (by decide +kernel) (by decide +kernel)]; rfl
theorem frzs_tups : ∀ xs : List (List D), frzs (xs.map D.tup) = xs.map D.tup
  | [] => rfl
  | x :: xs => by simp only [List.map_cons, frzs, D.frz, frzs_tups xs]
theorem isFzs_tups : ∀ xs : List (List D), isFzs (xs.map D.tup) = true
  | [] => rfl
  | x :: xs => by simp only [List.map_cons, isFzs, D.isFz, isFzs_tups xs, Bool.and_self]
local macro_rules | `(tactic| and_intros) => `(tactic| simp only [kd_pp, kd_rp, kd_tp, kd_pt, kd_rt, kd_tt, kd_pr, kd_rr, kd_tr, frzs_tups, isFzs_tups, wR_ok, wR_bind, w_C, w_Var, g_Var1, g_Var2, w_Mv, g_Mv1, g_Mv2, w_End, w_ov, w_op, g_Op1, g_Op2, w_oz, g_Oz1, g_Oz2, w_1, w_2, w_Not, w_Isi, w_Isi2, w_Ops0, w_Ops1, w_Tup, w_N, w_Sl, w_noPart, w_aPart, k_Part, w_Chain, isB_bl, cIf_t, cIf_f, cIf_n, w_ChainE, w_If, w_And, w_Or, w_Tru, w_Val, w_BAnd, w_BOr, w_BNot, w_BYes, w_Nil, w_Br, w_Ct, g_nx, g_br, g_ct, g_rt, w_Seq, w_SIf, w_Ret, w_Drop, w_Set, g_Set, g_Tup1, g_Tup2, g_All0, g_All1, isI_int, g_Item, q_Item, w_Q0, w_Q1, w_Lst, w_Par, w_Mut, g_Mu1, g_Mu2, v_append, k_Ext, w_Ext, g_Ex1, g_Ex2, w_Call, w_Args0, w_Args1, w_Args2, g_Ar, k_Call, w_As0, w_As1, w_As2, g_As, putm0, putm1, putm2, w_O0, w_O1, w_O2, q_rt, q_nx, w_fn, slots0, slots1, slots2, aft_nx, aft_ct, aft_br, aft_rt, w_sO0, w_sO1, w_sv, w_sp, g_Sp1, g_Sp2, w_sz, g_Sz1, g_Sz2, w_For, k_For, w_Lc, w_eO0, w_eO1, w_ev, w_ep, w_ez, k_Lc, v_add, v_addL, v_addT, v_sub, v_mul, v_fdiv, v_mod, v_pow, v_neg, v_lt, v_le, v_gt, v_ge, shp_int, shp_bl, shp_non, v_eq, v_ne, v_eqB, g_Ix, v_ixL, v_ixT, g_X, v_idx, v_lenL, v_lenT, v_abs, v_max, v_min, v_tup, v_list, v_listT, v_tuple, v_tupleT, v_slL, v_slT, v_truB, v_truI, v_truT, v_truL, v_truN, v_itL, v_itT, v_r1, v_r2, v_isB, v_isN, v_isntN, List.getElem?_cons_zero, List.getElem?_cons_succ, List.set_cons_zero, List.set_cons_succ, List.length_cons, List.length_nil, List.cons_append, List.nil_append, List.append_nil, List.replicate_succ, List.replicate_zero, D.frz, frzs, D.isFz, isFzs, dwipe, restore, relk, Bool.and_true, Bool.true_and, Bool.and_false, Bool.false_and, Bool.or_true, Bool.true_or, Bool.or_false, Bool.false_or, Bool.not_true, Bool.not_false, and_true, true_and, at_of, ix_of, frzs_ints, isFzs_ints, List.length_map, Int.toNat_natCast, ↓reduceIte, Nat.reduceAdd, Nat.reduceSub, Nat.reduceLT, Nat.reduceLeDiff, Int.reduceLT, Int.reduceLE, Int.reduceEq, Int.reduceAdd, Int.reduceSub, Int.reduceMul, Int.reduceNeg, Int.reduceToNat, Int.reducePow, Int.reduceBNe, Int.reduceBEq, reduceCtorEq, mulOk_l, mulOk_r, fdivOk_s, modOk_p, powOk_s, cast_of, small_le, small_lt, filt_yes, frzs_bls, v_anyB, v_allB, cutL_map, c_isIntDN, c_isIntDB, c_isIntDI, c_isIntDS, c_isIntDT, c_isIntDL, c_isBoolDN, c_isBoolDB, c_isBoolDI, c_isBoolDS, c_isBoolDT, c_isBoolDL, c_isStrDN, c_isStrDB, c_isStrDI, c_isStrDS, c_isStrDT, c_isStrDL, c_isTupDN, c_isTupDB, c_isTupDI, c_isTupDS, c_isTupDT, c_isTupDL, c_isLstDN, c_isLstDB, c_isLstDI, c_isLstDS, c_isLstDT, c_isLstDL, c_D_isNonN, c_D_isNonB, c_D_isNonI, c_D_isNonS, c_D_isNonT, c_D_isNonL, c_frz1N, c_isFz1N, c_frz1B, c_isFz1B, c_frz1I, c_isFz1I, c_frz1S, c_isFz1S, c_frz1T, c_isFz1T, c_frz1L, c_isFz1L, v_zip, v_zipT, v_enum, v_minI, v_maxI, v_minT, v_maxT, w_CallO, w_AugI, g_Aug, intAt1, intAt2, v_int, v_intB, v_extT, v_extL, okArgs0, okArgs1, okArgs2, w_Idx, k_Idx, v_reverse, v_insert, decide_true, decide_false, Bool.and_self])
local macro_rules | `(tactic| nofun) => `(tactic| simp only [kd_pp, kd_rp, kd_tp, kd_pt, kd_rt, kd_tt, kd_pr, kd_rr, kd_tr, frzs_tups, isFzs_tups, wR_ok, wR_bind, w_C, w_Var, g_Var1, g_Var2, w_Mv, g_Mv1, g_Mv2, w_End, w_ov, w_op, g_Op1, g_Op2, w_oz, g_Oz1, g_Oz2, w_1, w_2, w_Not, w_Isi, w_Isi2, w_Ops0, w_Ops1, w_Tup, w_N, w_Sl, w_noPart, w_aPart, k_Part, w_Chain, isB_bl, cIf_t, cIf_f, cIf_n, w_ChainE, w_If, w_And, w_Or, w_Tru, w_Val, w_BAnd, w_BOr, w_BNot, w_BYes, w_Nil, w_Br, w_Ct, g_nx, g_br, g_ct, g_rt, w_Seq, w_SIf, w_Ret, w_Drop, w_Set, g_Set, g_Tup1, g_Tup2, g_All0, g_All1, isI_int, g_Item, q_Item, w_Q0, w_Q1, w_Lst, w_Par, w_Mut, g_Mu1, g_Mu2, v_append, k_Ext, w_Ext, g_Ex1, g_Ex2, w_Call, w_Args0, w_Args1, w_Args2, g_Ar, k_Call, w_As0, w_As1, w_As2, g_As, putm0, putm1, putm2, w_O0, w_O1, w_O2, q_rt, q_nx, w_fn, slots0, slots1, slots2, aft_nx, aft_ct, aft_br, aft_rt, w_sO0, w_sO1, w_sv, w_sp, g_Sp1, g_Sp2, w_sz, g_Sz1, g_Sz2, w_For, k_For, w_Lc, w_eO0, w_eO1, w_ev, w_ep, w_ez, k_Lc, v_add, v_addL, v_addT, v_sub, v_mul, v_fdiv, v_mod, v_pow, v_neg, v_lt, v_le, v_gt, v_ge, shp_int, shp_bl, shp_non, v_eq, v_ne, v_eqB, g_Ix, v_ixL, v_ixT, g_X, v_idx, v_lenL, v_lenT, v_abs, v_max, v_min, v_tup, v_list, v_listT, v_tuple, v_tupleT, v_slL, v_slT, v_truB, v_truI, v_truT, v_truL, v_truN, v_itL, v_itT, v_r1, v_r2, v_isB, v_isN, v_isntN, List.getElem?_cons_zero, List.getElem?_cons_succ, List.set_cons_zero, List.set_cons_succ, List.length_cons, List.length_nil, List.cons_append, List.nil_append, List.append_nil, List.replicate_succ, List.replicate_zero, D.frz, frzs, D.isFz, isFzs, dwipe, restore, relk, Bool.and_true, Bool.true_and, Bool.and_false, Bool.false_and, Bool.or_true, Bool.true_or, Bool.or_false, Bool.false_or, Bool.not_true, Bool.not_false, and_true, true_and, at_of, ix_of, frzs_ints, isFzs_ints, List.length_map, Int.toNat_natCast, ↓reduceIte, Nat.reduceAdd, Nat.reduceSub, Nat.reduceLT, Nat.reduceLeDiff, Int.reduceLT, Int.reduceLE, Int.reduceEq, Int.reduceAdd, Int.reduceSub, Int.reduceMul, Int.reduceNeg, Int.reduceToNat, Int.reducePow, Int.reduceBNe, Int.reduceBEq, reduceCtorEq, mulOk_l, mulOk_r, fdivOk_s, modOk_p, powOk_s, cast_of, small_le, small_lt, filt_yes, frzs_bls, v_anyB, v_allB, cutL_map, c_isIntDN, c_isIntDB, c_isIntDI, c_isIntDS, c_isIntDT, c_isIntDL, c_isBoolDN, c_isBoolDB, c_isBoolDI, c_isBoolDS, c_isBoolDT, c_isBoolDL, c_isStrDN, c_isStrDB, c_isStrDI, c_isStrDS, c_isStrDT, c_isStrDL, c_isTupDN, c_isTupDB, c_isTupDI, c_isTupDS, c_isTupDT, c_isTupDL, c_isLstDN, c_isLstDB, c_isLstDI, c_isLstDS, c_isLstDT, c_isLstDL, c_D_isNonN, c_D_isNonB, c_D_isNonI, c_D_isNonS, c_D_isNonT, c_D_isNonL, c_frz1N, c_isFz1N, c_frz1B, c_isFz1B, c_frz1I, c_isFz1I, c_frz1S, c_isFz1S, c_frz1T, c_isFz1T, c_frz1L, c_isFz1L, v_zip, v_zipT, v_enum, v_minI, v_maxI, v_minT, v_maxT, w_CallO, w_AugI, g_Aug, intAt1, intAt2, v_int, v_intB, v_extT, v_extL, okArgs0, okArgs1, okArgs2, w_Idx, k_Idx, v_reverse, v_insert, decide_true, decide_false, Bool.and_self, *])
variable {sem : Nat → CE} {s : Nat} {x y : D}
def Cor (s : Nat) (d : D) : Prop := ∃ x y, d = .tup [x, y] ∧ Num s x ∧ Num s y
theorem Cor.fz {d : D} (h : Cor s d) : d.isFz = true := by obtain ⟨x, y, rfl, _⟩ := h; rfl
theorem Cor.mono {d : D} {u : Nat} (h : Cor s d) (k : s ≤ u) : Cor u d := by obtain ⟨x, y, rfl, a, b⟩ := h; exact ⟨x, y, rfl, a.mono k, b.mono k⟩
theorem Cor.pl {d : D} (h : Cor s d) : d.pl 2 = true := by
  obtain ⟨x, y, rfl, a, b⟩ := h
  refine pl_tup fun z hz => ?_
  simp only [List.mem_cons, List.not_mem_nil, or_false] at hz
  rcases hz with rfl | rfl
  · exact a.pl
  · exact b.pl
theorem fzs_of {P : D → Prop} (hP : ∀ d, P d → d.isFz = true) {xs : List D} (h : ∀ x ∈ xs, P x) : isFzs xs = true := by
  rw [isFzs_eq, List.all_eq_true]
  exact fun z hz => hP z (h z hz)
theorem cors_fz {xs : List D} (h : ∀ x ∈ xs, Cor s x) : isFzs xs = true := fzs_of (fun _ h => h.fz) h
theorem cutL_tail {α : Type} {xs : List α} : cutL xs (some 1) none = xs.tail := by
  unfold cutL HT.sIx
  cases xs with
  | nil => rfl
  | cons x xs => simp
theorem cutL_upto {α : Type} {xs : List α} {n : Nat} : cutL xs none (some (n : Int)) = xs.take n := by
  unfold cutL
  rw [HT.sIx_none, HT.sIx_nat, List.drop_zero, Nat.sub_zero]
  exact List.take_eq_take_iff.mpr (by omega)
theorem cutL_from {α : Type} {xs : List α} {n : Nat} : cutL xs (some (n : Int)) none = xs.drop n := by
  unfold cutL
  rw [HT.sIx_none, HT.sIx_nat]
  by_cases h : n ≤ xs.length
  · rw [Nat.min_eq_left h, List.take_of_length_le (by simp)]
  · rw [Nat.min_eq_right (by omega), List.drop_eq_nil_of_le (Nat.le_refl _), List.drop_eq_nil_of_le (by omega), List.take_nil]
def b_lines_in (C : CE) : SS :=
  sSeq (sIf (bVal (r2 eqD (ov (r2 itemD (oz 0) (ov (rC (.int 0))))) (ov (rC (.str ("points" : PySem.Str)))))) (sRet (rLst [r2 itemD (oz 0) (ov (rC (.int 1)))])) (sNil)) (sRet (rN listD' [ov (r2 itemD (oz 0) (ov (rC (.int 1))))]))
class H_lines_in (sem : Nat → CE) : Prop where
  h : ∀ (n : Nat) (args : List D), sem (n + 1) 51 args = fnRun 1 [false] (b_lines_in (sem n)) args
def b_all_corners (C : CE) : SS :=
  sSeq (sSet (gSet 1) (rLst [])) (sSeq (sFor [.v (rCall C 51 [.vw (oz 0)])] itemsD (gSet 2) (sDrop (rExt 1 (oz 2)))) (sRet (rMv 1)))
class H_all_corners (sem : Nat → CE) : Prop where
  h : ∀ (n : Nat) (args : List D), sem (n + 1) 52 args = fnRun 3 [false] (b_all_corners (sem n)) args
def b_box_of (C : CE) : SS :=
  sSeq (sSet (gSet 1) (rCall C 52 [.vw (oz 0)])) (sSeq (sSet (gSet 2) (rLc [.z 1] itemsD [3] (gSet 3) (bYes) (r2 itemD (oz 3) (ov (rC (.int 0)))))) (sSeq (sSet (gSet 4) (rLc [.z 1] itemsD [3] (gSet 3) (bYes) (r2 itemD (oz 3) (ov (rC (.int 1)))))) (sRet (rTup [ov (rCall C 49 [.vw (oz 2)]), ov (rCall C 49 [.vw (oz 4)]), ov (rCall C 50 [.vw (oz 2)]), ov (rCall C 50 [.vw (oz 4)])]))))
class H_box_of (sem : Nat → CE) : Prop where
  h : ∀ (n : Nat) (args : List D), sem (n + 1) 53 args = fnRun 5 [false] (b_box_of (sem n)) args
def b_changed_shape (C : CE) : SS :=
  sSeq (sIf (bVal (r2 eqD (ov (r2 itemD (oz 0) (ov (rC (.int 0))))) (ov (rC (.str ("points" : PySem.Str)))))) (sRet (rTup [ov (rC (.str ("points" : PySem.Str))), ov (rN tupleD' [oz 1])])) (sNil)) (sSeq (sSet (gSet 2) (rLst [])) (sSeq (sSet (gSet 3) (rC (.int 0))) (sSeq (sFor [.v (r2 itemD (oz 0) (ov (rC (.int 1))))] itemsD (gSet 4) (sSeq (sDrop (rMut 2 appendF [rN tupleD' [ov (rSl (oz 1) (aPart (op 3)) (aPart (ov (r2 addD (oz 3) (ov (rN lenD [op 4]))))))]])) (sAugI 3 (fun a b => a + b) (rN lenD [op 4])))) (sRet (rTup [ov (r2 itemD (oz 0) (ov (rC (.int 0)))), ov (rN tupleD' [oz 2])])))))
class H_changed_shape (sem : Nat → CE) : Prop where
  h : ∀ (n : Nat) (args : List D), sem (n + 1) 54 args = fnRun 5 [false, false] (b_changed_shape (sem n)) args
def b_moved (C : CE) : SS :=
  sRet (rCall C 54 [.vw (oz 0), .vw (ov (rLc [.v (rCall C 52 [.vw (oz 0)])] itemsD [2, 3] (gTup' [gSet 2, gSet 3]) (bYes) (rTup [ov (rCall C 4 [.vw (ov (rVar 2)), .vw (ov (r2 itemD (oz 1) (ov (rC (.int 0)))))]), ov (rCall C 4 [.vw (ov (rVar 3)), .vw (ov (r2 itemD (oz 1) (ov (rC (.int 1)))))])])))])
class H_moved (sem : Nat → CE) : Prop where
  h : ∀ (n : Nat) (args : List D), sem (n + 1) 55 args = fnRun 4 [false, false] (b_moved (sem n)) args
def b_grown (C : CE) : SS :=
  sRet (rCall C 54 [.vw (oz 0), .vw (ov (rLc [.v (rCall C 52 [.vw (oz 0)])] itemsD [2, 3] (gTup' [gSet 2, gSet 3]) (bYes) (rTup [ov (rCall C 36 [.vw (ov (rVar 2)), .vw (ov (rVar 1))]), ov (rCall C 36 [.vw (ov (rVar 3)), .vw (ov (rVar 1))])])))])
class H_grown (sem : Nat → CE) : Prop where
  h : ∀ (n : Nat) (args : List D), sem (n + 1) 56 args = fnRun 4 [false, false] (b_grown (sem n)) args
def b_turned (C : CE) : SS :=
  sRet (rCall C 54 [.vw (oz 0), .vw (ov (rLc [.v (rCall C 52 [.vw (oz 0)])] itemsD [1, 2] (gTup' [gSet 1, gSet 2]) (bYes) (rTup [ov (rCall C 35 [.vw (ov (rC (.int 0))), .vw (ov (rVar 2))]), ov (rVar 1)])))])
class H_turned (sem : Nat → CE) : Prop where
  h : ∀ (n : Nat) (args : List D), sem (n + 1) 85 args = fnRun 3 [false] (b_turned (sem n)) args
def b_mirrored (C : CE) : SS :=
  sRet (rCall C 54 [.vw (oz 0), .vw (ov (rLc [.v (rCall C 52 [.vw (oz 0)])] itemsD [1, 2] (gTup' [gSet 1, gSet 2]) (bYes) (rTup [ov (rCall C 35 [.vw (ov (rC (.int 0))), .vw (ov (rVar 1))]), ov (rVar 2)])))])
class H_mirrored (sem : Nat → CE) : Prop where
  h : ∀ (n : Nat) (args : List D), sem (n + 1) 86 args = fnRun 3 [false] (b_mirrored (sem n)) args

structure Shp where
  k : Nat
  ls : List (List D)
def Shp.d (S : Shp) : D := match S.k with
  | 0 => .tup [.str ("points" : PySem.Str), .tup S.ls.flatten]
  | 1 => .tup [.str ("rows" : PySem.Str), .tup (S.ls.map .tup)]
  | _ => .tup [.str ("patch" : PySem.Str), .tup (S.ls.map .tup)]
structure Shp.Ok (s : Nat) (S : Shp) : Prop where
  one : S.k = 0 → S.ls.length = 1
  ne : S.ls ≠ []
  few : S.ls.length ≤ 100
  lne : ∀ l ∈ S.ls, l ≠ []
  lfew : ∀ l ∈ S.ls, l.length ≤ 100
  cor : ∀ l ∈ S.ls, ∀ c ∈ l, Cor s c
theorem Shp.Ok.all {S : Shp} (h : S.Ok s) : ∀ c ∈ S.ls.flatten, Cor s c := fun c hc => by
  obtain ⟨l, hl, hc⟩ := List.mem_flatten.mp hc
  exact h.cor l hl c hc
theorem flatten_len {α : Type} {m : Nat} : ∀ {ls : List (List α)}, (∀ l ∈ ls, l.length ≤ m) → ls.flatten.length ≤ m * ls.length
  | [], _ => by simp
  | l :: ls, h => by
    have h1 := flatten_len (ls := ls) fun x hx => h x (List.mem_cons_of_mem _ hx)
    have h2 := h l List.mem_cons_self
    rw [List.flatten_cons, List.length_append, List.length_cons, Nat.mul_succ]
    omega
theorem Shp.Ok.len {S : Shp} (h : S.Ok s) : S.ls.flatten.length ≤ 10000 := by
  have h1 := flatten_len h.lfew
  have h2 := Nat.mul_le_mul_left 100 h.few
  omega
theorem F_lines [H_lines_in sem] (n : Nat) {S : Shp} (h : S.k = 0 → S.ls.length = 1) : sem (n + 1) 51 [S.d] = .ok (.lst true (S.ls.map .tup), []) := by
  apply wR_get
  rw [H_lines_in.h (sem := sem)]
  unfold b_lines_in
  rcases S with ⟨k, ls⟩
  match k, h with
  | 0, h =>
    obtain ⟨l, rfl⟩ := List.length_eq_one_iff.mp (h rfl)
    unfold Shp.d
    nofun
    simp
  | 1, _ =>
    unfold Shp.d
    nofun
  | k + 2, _ =>
    unfold Shp.d
    nofun
theorem Shp.d_fz {S : Shp} : S.d.isFz = true := by
  rcases S with ⟨_ | _ | k, ls⟩ <;> rfl
theorem Shp.d_frz {S : Shp} : S.d.frz = S.d := frz_of Shp.d_fz
theorem Shp.d_fz1 {S : Shp} : S.d.isFz1 = true := fz1_of Shp.d_fz
theorem Shp.d_frz1 {S : Shp} : S.d.frz1 = S.d := frz1_of Shp.d_fz
theorem F_all [H_lines_in sem] [H_all_corners sem] (n : Nat) {S : Shp} (h : S.Ok s) : sem (n + 2) 52 [S.d] = .ok (.lst true S.ls.flatten, []) := by
  apply wR_get
  rw [H_all_corners.h (sem := sem)]
  unfold b_all_corners
  have a1 := F_lines (sem := sem) n h.one
  have f1 := S.d_fz; have f2 := S.d_frz; have f3 := S.d_fz1; have f4 := S.d_frz1
  nofun
  refine w_loop (fun i ds => ∃ s2, ds = [.lk S.d, .own (.lst true (S.ls.take i).flatten), s2]) (j := 0) ⟨_, rfl⟩ (fun i x ds hx2 hI => ?_) (fun ds hI => ?_)
  · obtain ⟨s2, rfl⟩ := hI
    rw [Nat.zero_add] at *
    rw [List.getElem?_map] at hx2
    obtain ⟨l, hl, rfl⟩ := Option.map_eq_some_iff.mp hx2
    have e : (S.ls.take (i + 1)).flatten = (S.ls.take i).flatten ++ l := by
      rw [List.take_add_one, hl, List.flatten_append]; simp
    have l1 : (S.ls.take i).flatten.length + l.length ≤ S.ls.flatten.length := by
      have e2 : S.ls.flatten = (S.ls.take (i + 1)).flatten ++ (S.ls.drop (i + 1)).flatten := by rw [← List.flatten_append, List.take_append_drop]
      rw [e2, e, List.length_append, List.length_append]; omega
    have l2 := h.len
    nofun
    exact ⟨by unfold sizeLine; omega, .own (.tup l), rfl⟩
  · obtain ⟨s2, rfl⟩ := hI
    rw [Nat.zero_add, List.length_map, List.take_length]
    nofun
def xOf (d : D) : D := match d with | .tup [x, _] => x | _ => .non
def yOf (d : D) : D := match d with | .tup [_, y] => y | _ => .non
theorem Cor.xn {d : D} (h : Cor s d) : Num s (xOf d) := by obtain ⟨x, y, rfl, a, _⟩ := h; exact a
theorem Cor.yn {d : D} (h : Cor s d) : Num s (yOf d) := by obtain ⟨x, y, rfl, _, b⟩ := h; exact b
theorem Cor.eta {d : D} (h : Cor s d) : d = .tup [xOf d, yOf d] := by obtain ⟨x, y, rfl, _⟩ := h; rfl
def Shp.map (f : D → D) (S : Shp) : Shp := ⟨S.k, S.ls.map (List.map f)⟩
theorem Shp.Ok.map {S : Shp} (h : S.Ok s) {f : D → D} {u : Nat} (hf : ∀ c, Cor s c → Cor u (f c)) : (S.map f).Ok u := by
  refine ⟨fun e => by simpa [Shp.map] using h.one e, by simpa [Shp.map] using h.ne, by simpa [Shp.map] using h.few, ?_, ?_, ?_⟩
  all_goals
    intro l hl
    obtain ⟨l, hl2, rfl⟩ := List.mem_map.mp hl
    clear hl
    have hl := hl2
    clear hl2
  · simpa using h.lne l hl
  · simpa using h.lfew l hl
  · intro c hc
    obtain ⟨c, hc2, rfl⟩ := List.mem_map.mp hc
    exact hf c (h.cor l hl c hc2)
end Vd
end
section
namespace Vd
open PySem L2
local macro_rules | `(tactic| and_intros) => `(tactic| simp only [wR_ok, wR_bind, w_C, w_Var, g_Var1, g_Var2, w_Mv, g_Mv1, g_Mv2, w_End, w_ov, w_op, g_Op1, g_Op2, w_oz, g_Oz1, g_Oz2, w_1, w_2, w_Not, w_Isi, w_Isi2, w_Ops0, w_Ops1, w_Tup, w_N, w_Sl, w_noPart, w_aPart, k_Part, w_Chain, isB_bl, cIf_t, cIf_f, cIf_n, w_ChainE, w_If, w_And, w_Or, w_Tru, w_Val, w_BAnd, w_BOr, w_BNot, w_BYes, w_Nil, w_Br, w_Ct, g_nx, g_br, g_ct, g_rt, w_Seq, w_SIf, w_Ret, w_Drop, w_Set, g_Set, g_Tup1, g_Tup2, g_All0, g_All1, isI_int, g_Item, q_Item, w_Q0, w_Q1, w_Lst, w_Par, w_Mut, g_Mu1, g_Mu2, v_append, k_Ext, w_Ext, g_Ex1, g_Ex2, w_Call, w_Args0, w_Args1, w_Args2, g_Ar, k_Call, w_As0, w_As1, w_As2, g_As, putm0, putm1, putm2, w_O0, w_O1, w_O2, q_rt, q_nx, w_fn, slots0, slots1, slots2, aft_nx, aft_ct, aft_br, aft_rt, w_sO0, w_sO1, w_sv, w_sp, g_Sp1, g_Sp2, w_sz, g_Sz1, g_Sz2, w_For, k_For, w_Lc, w_eO0, w_eO1, w_ev, w_ep, w_ez, k_Lc, v_add, v_addL, v_addT, v_sub, v_mul, v_fdiv, v_mod, v_pow, v_neg, v_lt, v_le, v_gt, v_ge, shp_int, shp_bl, shp_non, v_eq, v_ne, v_eqB, g_Ix, v_ixL, v_ixT, g_X, v_idx, v_lenL, v_lenT, v_abs, v_max, v_min, v_tup, v_list, v_listT, v_tuple, v_tupleT, v_slL, v_slT, v_truB, v_truI, v_truT, v_truL, v_truN, v_itL, v_itT, v_r1, v_r2, v_isB, v_isN, v_isntN, List.getElem?_cons_zero, List.getElem?_cons_succ, List.set_cons_zero, List.set_cons_succ, List.length_cons, List.length_nil, List.cons_append, List.nil_append, List.append_nil, List.replicate_succ, List.replicate_zero, D.frz, frzs, D.isFz, isFzs, dwipe, restore, relk, Bool.and_true, Bool.true_and, Bool.and_false, Bool.false_and, Bool.or_true, Bool.true_or, Bool.or_false, Bool.false_or, Bool.not_true, Bool.not_false, and_true, true_and, at_of, ix_of, frzs_ints, isFzs_ints, List.length_map, Int.toNat_natCast, ↓reduceIte, Nat.reduceAdd, Nat.reduceSub, Nat.reduceLT, Nat.reduceLeDiff, Int.reduceLT, Int.reduceLE, Int.reduceEq, Int.reduceAdd, Int.reduceSub, Int.reduceMul, Int.reduceNeg, Int.reduceToNat, Int.reducePow, Int.reduceBNe, Int.reduceBEq, reduceCtorEq, mulOk_l, mulOk_r, fdivOk_s, modOk_p, powOk_s, cast_of, small_le, small_lt, filt_yes, frzs_bls, v_anyB, v_allB, cutL_map, c_isIntDN, c_isIntDB, c_isIntDI, c_isIntDS, c_isIntDT, c_isIntDL, c_isBoolDN, c_isBoolDB, c_isBoolDI, c_isBoolDS, c_isBoolDT, c_isBoolDL, c_isStrDN, c_isStrDB, c_isStrDI, c_isStrDS, c_isStrDT, c_isStrDL, c_isTupDN, c_isTupDB, c_isTupDI, c_isTupDS, c_isTupDT, c_isTupDL, c_isLstDN, c_isLstDB, c_isLstDI, c_isLstDS, c_isLstDT, c_isLstDL, c_D_isNonN, c_D_isNonB, c_D_isNonI, c_D_isNonS, c_D_isNonT, c_D_isNonL, c_frz1N, c_isFz1N, c_frz1B, c_isFz1B, c_frz1I, c_isFz1I, c_frz1S, c_isFz1S, c_frz1T, c_isFz1T, c_frz1L, c_isFz1L, v_zip, v_zipT, v_enum, v_minI, v_maxI, v_minT, v_maxT, w_CallO, w_AugI, g_Aug, intAt1, intAt2, v_int, v_intB, v_extT, v_extL, okArgs0, okArgs1, okArgs2, w_Idx, k_Idx, v_reverse, v_insert, decide_true, decide_false, Bool.and_self])
local macro_rules | `(tactic| nofun) => `(tactic| simp only [wR_ok, wR_bind, w_C, w_Var, g_Var1, g_Var2, w_Mv, g_Mv1, g_Mv2, w_End, w_ov, w_op, g_Op1, g_Op2, w_oz, g_Oz1, g_Oz2, w_1, w_2, w_Not, w_Isi, w_Isi2, w_Ops0, w_Ops1, w_Tup, w_N, w_Sl, w_noPart, w_aPart, k_Part, w_Chain, isB_bl, cIf_t, cIf_f, cIf_n, w_ChainE, w_If, w_And, w_Or, w_Tru, w_Val, w_BAnd, w_BOr, w_BNot, w_BYes, w_Nil, w_Br, w_Ct, g_nx, g_br, g_ct, g_rt, w_Seq, w_SIf, w_Ret, w_Drop, w_Set, g_Set, g_Tup1, g_Tup2, g_All0, g_All1, isI_int, g_Item, q_Item, w_Q0, w_Q1, w_Lst, w_Par, w_Mut, g_Mu1, g_Mu2, v_append, k_Ext, w_Ext, g_Ex1, g_Ex2, w_Call, w_Args0, w_Args1, w_Args2, g_Ar, k_Call, w_As0, w_As1, w_As2, g_As, putm0, putm1, putm2, w_O0, w_O1, w_O2, q_rt, q_nx, w_fn, slots0, slots1, slots2, aft_nx, aft_ct, aft_br, aft_rt, w_sO0, w_sO1, w_sv, w_sp, g_Sp1, g_Sp2, w_sz, g_Sz1, g_Sz2, w_For, k_For, w_Lc, w_eO0, w_eO1, w_ev, w_ep, w_ez, k_Lc, v_add, v_addL, v_addT, v_sub, v_mul, v_fdiv, v_mod, v_pow, v_neg, v_lt, v_le, v_gt, v_ge, shp_int, shp_bl, shp_non, v_eq, v_ne, v_eqB, g_Ix, v_ixL, v_ixT, g_X, v_idx, v_lenL, v_lenT, v_abs, v_max, v_min, v_tup, v_list, v_listT, v_tuple, v_tupleT, v_slL, v_slT, v_truB, v_truI, v_truT, v_truL, v_truN, v_itL, v_itT, v_r1, v_r2, v_isB, v_isN, v_isntN, List.getElem?_cons_zero, List.getElem?_cons_succ, List.set_cons_zero, List.set_cons_succ, List.length_cons, List.length_nil, List.cons_append, List.nil_append, List.append_nil, List.replicate_succ, List.replicate_zero, D.frz, frzs, D.isFz, isFzs, dwipe, restore, relk, Bool.and_true, Bool.true_and, Bool.and_false, Bool.false_and, Bool.or_true, Bool.true_or, Bool.or_false, Bool.false_or, Bool.not_true, Bool.not_false, and_true, true_and, at_of, ix_of, frzs_ints, isFzs_ints, List.length_map, Int.toNat_natCast, ↓reduceIte, Nat.reduceAdd, Nat.reduceSub, Nat.reduceLT, Nat.reduceLeDiff, Int.reduceLT, Int.reduceLE, Int.reduceEq, Int.reduceAdd, Int.reduceSub, Int.reduceMul, Int.reduceNeg, Int.reduceToNat, Int.reducePow, Int.reduceBNe, Int.reduceBEq, reduceCtorEq, mulOk_l, mulOk_r, fdivOk_s, modOk_p, powOk_s, cast_of, small_le, small_lt, filt_yes, frzs_bls, v_anyB, v_allB, cutL_map, c_isIntDN, c_isIntDB, c_isIntDI, c_isIntDS, c_isIntDT, c_isIntDL, c_isBoolDN, c_isBoolDB, c_isBoolDI, c_isBoolDS, c_isBoolDT, c_isBoolDL, c_isStrDN, c_isStrDB, c_isStrDI, c_isStrDS, c_isStrDT, c_isStrDL, c_isTupDN, c_isTupDB, c_isTupDI, c_isTupDS, c_isTupDT, c_isTupDL, c_isLstDN, c_isLstDB, c_isLstDI, c_isLstDS, c_isLstDT, c_isLstDL, c_D_isNonN, c_D_isNonB, c_D_isNonI, c_D_isNonS, c_D_isNonT, c_D_isNonL, c_frz1N, c_isFz1N, c_frz1B, c_isFz1B, c_frz1I, c_isFz1I, c_frz1S, c_isFz1S, c_frz1T, c_isFz1T, c_frz1L, c_isFz1L, v_zip, v_zipT, v_enum, v_minI, v_maxI, v_minT, v_maxT, w_CallO, w_AugI, g_Aug, intAt1, intAt2, v_int, v_intB, v_extT, v_extL, okArgs0, okArgs1, okArgs2, w_Idx, k_Idx, v_reverse, v_insert, decide_true, decide_false, Bool.and_self, *])
variable {sem : Nat → CE} {s u : Nat} {x y : D}
section
variable [H_greatest_in_both sem] [H_number_of sem] [H_top_of sem] [H_below_of sem] [H_lines_in sem] [H_all_corners sem] [H_changed_shape sem]
end
end Vd
end
section
namespace Vd
open PySem L2
local macro_rules | `(tactic| and_intros) => `(tactic| simp only [frzs_tups, isFzs_tups, wR_ok, wR_bind, w_C, w_Var, g_Var1, g_Var2, w_Mv, g_Mv1, g_Mv2, w_End, w_ov, w_op, g_Op1, g_Op2, w_oz, g_Oz1, g_Oz2, w_1, w_2, w_Not, w_Isi, w_Isi2, w_Ops0, w_Ops1, w_Tup, w_N, w_Sl, w_noPart, w_aPart, k_Part, w_Chain, isB_bl, cIf_t, cIf_f, cIf_n, w_ChainE, w_If, w_And, w_Or, w_Tru, w_Val, w_BAnd, w_BOr, w_BNot, w_BYes, w_Nil, w_Br, w_Ct, g_nx, g_br, g_ct, g_rt, w_Seq, w_SIf, w_Ret, w_Drop, w_Set, g_Set, g_Tup1, g_Tup2, g_All0, g_All1, isI_int, g_Item, q_Item, w_Q0, w_Q1, w_Lst, w_Par, w_Mut, g_Mu1, g_Mu2, v_append, k_Ext, w_Ext, g_Ex1, g_Ex2, w_Call, w_Args0, w_Args1, w_Args2, g_Ar, k_Call, w_As0, w_As1, w_As2, g_As, putm0, putm1, putm2, w_O0, w_O1, w_O2, q_rt, q_nx, w_fn, slots0, slots1, slots2, aft_nx, aft_ct, aft_br, aft_rt, w_sO0, w_sO1, w_sv, w_sp, g_Sp1, g_Sp2, w_sz, g_Sz1, g_Sz2, w_For, k_For, w_Lc, w_eO0, w_eO1, w_ev, w_ep, w_ez, k_Lc, v_add, v_addL, v_addT, v_sub, v_mul, v_fdiv, v_mod, v_pow, v_neg, v_lt, v_le, v_gt, v_ge, shp_int, shp_bl, shp_non, v_eq, v_ne, v_eqB, g_Ix, v_ixL, v_ixT, g_X, v_idx, v_lenL, v_lenT, v_abs, v_max, v_min, v_tup, v_list, v_listT, v_tuple, v_tupleT, v_slL, v_slT, v_truB, v_truI, v_truT, v_truL, v_truN, v_itL, v_itT, v_r1, v_r2, v_isB, v_isN, v_isntN, List.getElem?_cons_zero, List.getElem?_cons_succ, List.set_cons_zero, List.set_cons_succ, List.length_cons, List.length_nil, List.cons_append, List.nil_append, List.append_nil, List.replicate_succ, List.replicate_zero, D.frz, frzs, D.isFz, isFzs, dwipe, restore, relk, Bool.and_true, Bool.true_and, Bool.and_false, Bool.false_and, Bool.or_true, Bool.true_or, Bool.or_false, Bool.false_or, Bool.not_true, Bool.not_false, and_true, true_and, at_of, ix_of, frzs_ints, isFzs_ints, List.length_map, Int.toNat_natCast, ↓reduceIte, Nat.reduceAdd, Nat.reduceSub, Nat.reduceLT, Nat.reduceLeDiff, Int.reduceLT, Int.reduceLE, Int.reduceEq, Int.reduceAdd, Int.reduceSub, Int.reduceMul, Int.reduceNeg, Int.reduceToNat, Int.reducePow, Int.reduceBNe, Int.reduceBEq, reduceCtorEq, mulOk_l, mulOk_r, fdivOk_s, modOk_p, powOk_s, cast_of, small_le, small_lt, filt_yes, frzs_bls, v_anyB, v_allB, cutL_map, c_isIntDN, c_isIntDB, c_isIntDI, c_isIntDS, c_isIntDT, c_isIntDL, c_isBoolDN, c_isBoolDB, c_isBoolDI, c_isBoolDS, c_isBoolDT, c_isBoolDL, c_isStrDN, c_isStrDB, c_isStrDI, c_isStrDS, c_isStrDT, c_isStrDL, c_isTupDN, c_isTupDB, c_isTupDI, c_isTupDS, c_isTupDT, c_isTupDL, c_isLstDN, c_isLstDB, c_isLstDI, c_isLstDS, c_isLstDT, c_isLstDL, c_D_isNonN, c_D_isNonB, c_D_isNonI, c_D_isNonS, c_D_isNonT, c_D_isNonL, c_frz1N, c_isFz1N, c_frz1B, c_isFz1B, c_frz1I, c_isFz1I, c_frz1S, c_isFz1S, c_frz1T, c_isFz1T, c_frz1L, c_isFz1L, v_zip, v_zipT, v_enum, v_minI, v_maxI, v_minT, v_maxT, w_CallO, w_AugI, g_Aug, intAt1, intAt2, v_int, v_intB, v_extT, v_extL, okArgs0, okArgs1, okArgs2, w_Idx, k_Idx, v_reverse, v_insert, decide_true, decide_false, Bool.and_self])
local macro_rules | `(tactic| nofun) => `(tactic| simp only [frzs_tups, isFzs_tups, wR_ok, wR_bind, w_C, w_Var, g_Var1, g_Var2, w_Mv, g_Mv1, g_Mv2, w_End, w_ov, w_op, g_Op1, g_Op2, w_oz, g_Oz1, g_Oz2, w_1, w_2, w_Not, w_Isi, w_Isi2, w_Ops0, w_Ops1, w_Tup, w_N, w_Sl, w_noPart, w_aPart, k_Part, w_Chain, isB_bl, cIf_t, cIf_f, cIf_n, w_ChainE, w_If, w_And, w_Or, w_Tru, w_Val, w_BAnd, w_BOr, w_BNot, w_BYes, w_Nil, w_Br, w_Ct, g_nx, g_br, g_ct, g_rt, w_Seq, w_SIf, w_Ret, w_Drop, w_Set, g_Set, g_Tup1, g_Tup2, g_All0, g_All1, isI_int, g_Item, q_Item, w_Q0, w_Q1, w_Lst, w_Par, w_Mut, g_Mu1, g_Mu2, v_append, k_Ext, w_Ext, g_Ex1, g_Ex2, w_Call, w_Args0, w_Args1, w_Args2, g_Ar, k_Call, w_As0, w_As1, w_As2, g_As, putm0, putm1, putm2, w_O0, w_O1, w_O2, q_rt, q_nx, w_fn, slots0, slots1, slots2, aft_nx, aft_ct, aft_br, aft_rt, w_sO0, w_sO1, w_sv, w_sp, g_Sp1, g_Sp2, w_sz, g_Sz1, g_Sz2, w_For, k_For, w_Lc, w_eO0, w_eO1, w_ev, w_ep, w_ez, k_Lc, v_add, v_addL, v_addT, v_sub, v_mul, v_fdiv, v_mod, v_pow, v_neg, v_lt, v_le, v_gt, v_ge, shp_int, shp_bl, shp_non, v_eq, v_ne, v_eqB, g_Ix, v_ixL, v_ixT, g_X, v_idx, v_lenL, v_lenT, v_abs, v_max, v_min, v_tup, v_list, v_listT, v_tuple, v_tupleT, v_slL, v_slT, v_truB, v_truI, v_truT, v_truL, v_truN, v_itL, v_itT, v_r1, v_r2, v_isB, v_isN, v_isntN, List.getElem?_cons_zero, List.getElem?_cons_succ, List.set_cons_zero, List.set_cons_succ, List.length_cons, List.length_nil, List.cons_append, List.nil_append, List.append_nil, List.replicate_succ, List.replicate_zero, D.frz, frzs, D.isFz, isFzs, dwipe, restore, relk, Bool.and_true, Bool.true_and, Bool.and_false, Bool.false_and, Bool.or_true, Bool.true_or, Bool.or_false, Bool.false_or, Bool.not_true, Bool.not_false, and_true, true_and, at_of, ix_of, frzs_ints, isFzs_ints, List.length_map, Int.toNat_natCast, ↓reduceIte, Nat.reduceAdd, Nat.reduceSub, Nat.reduceLT, Nat.reduceLeDiff, Int.reduceLT, Int.reduceLE, Int.reduceEq, Int.reduceAdd, Int.reduceSub, Int.reduceMul, Int.reduceNeg, Int.reduceToNat, Int.reducePow, Int.reduceBNe, Int.reduceBEq, reduceCtorEq, mulOk_l, mulOk_r, fdivOk_s, modOk_p, powOk_s, cast_of, small_le, small_lt, filt_yes, frzs_bls, v_anyB, v_allB, cutL_map, c_isIntDN, c_isIntDB, c_isIntDI, c_isIntDS, c_isIntDT, c_isIntDL, c_isBoolDN, c_isBoolDB, c_isBoolDI, c_isBoolDS, c_isBoolDT, c_isBoolDL, c_isStrDN, c_isStrDB, c_isStrDI, c_isStrDS, c_isStrDT, c_isStrDL, c_isTupDN, c_isTupDB, c_isTupDI, c_isTupDS, c_isTupDT, c_isTupDL, c_isLstDN, c_isLstDB, c_isLstDI, c_isLstDS, c_isLstDT, c_isLstDL, c_D_isNonN, c_D_isNonB, c_D_isNonI, c_D_isNonS, c_D_isNonT, c_D_isNonL, c_frz1N, c_isFz1N, c_frz1B, c_isFz1B, c_frz1I, c_isFz1I, c_frz1S, c_isFz1S, c_frz1T, c_isFz1T, c_frz1L, c_isFz1L, v_zip, v_zipT, v_enum, v_minI, v_maxI, v_minT, v_maxT, w_CallO, w_AugI, g_Aug, intAt1, intAt2, v_int, v_intB, v_extT, v_extL, okArgs0, okArgs1, okArgs2, w_Idx, k_Idx, v_reverse, v_insert, decide_true, decide_false, Bool.and_self, *])
def b__law_hand (C : CE) : SS :=
  sRet (rLst [rLc [.v (rSl (oz 0) noPart (aPart (ov (rC (.int 63)))))] itemsD [1] (gSet 1) (bYes) (rN absD [op 1]), rC (.int 0), rC (.int 0), rC (.int 0)])
class H__law_hand (sem : Nat → CE) : Prop where
  h : ∀ (n : Nat) (args : List D), sem (n + 1) 38 args = fnRun 2 [false] (b__law_hand (sem n)) args
def b__law_draw (C : CE) : SS :=
  sSeq (sSet (gItem 0 (ov (rC (.int 3)))) (r2 addD (ov (r2 itemD (oz 0) (ov (rC (.int 3))))) (ov (rC (.int 1))))) (sSeq (sIf (bVal (r2 eqD (ov (r2 itemD (oz 0) (ov (rC (.int 2))))) (ov (rC (.int 0))))) (sSeq (sSet (gSet 2) (rC (.int 0))) (sSeq (sIf (bVal (r2 gtD (ov (rN lenD [ov (r2 itemD (oz 0) (ov (rC (.int 0))))])) (ov (rC (.int 0))))) (sSet (gSet 2) (r2 itemD (ov (r2 itemD (oz 0) (ov (rC (.int 0))))) (ov (r2 modD (ov (r2 itemD (oz 0) (ov (rC (.int 1))))) (ov (rN lenD [ov (r2 itemD (oz 0) (ov (rC (.int 0))))])))))) (sNil)) (sSeq (sSet (gItem 0 (ov (rC (.int 1)))) (r2 addD (ov (r2 itemD (oz 0) (ov (rC (.int 1))))) (ov (rC (.int 1))))) (sSeq (sIf (bOr (bVal (r2 ltD (op 2) (ov (r2 powD (ov (rC (.int 10))) (ov (rC (.int 18))))))) (bVal (r2 gtD (ov (r2 itemD (oz 0) (ov (rC (.int 1))))) (ov (rN lenD [ov (r2 itemD (oz 0) (ov (rC (.int 0))))]))))) (sSeq (sSet (gSet 3) (r2 addD (ov (r2 addD (ov (r2 modD (op 2) (ov (rC (.int 2147483629))))) (ov (r2 mulD (ov (rC (.int 7919))) (ov (r2 itemD (oz 0) (ov (rC (.int 3))))))))) (ov (rC (.int 11))))) (sSeq (sSet (gSet 3) (r2 modD (ov (r2 mulD (op 3) (ov (r2 addD (ov (rC (.int 48271))) (ov (r2 mulD (ov (rC (.int 2))) (ov (r2 itemD (oz 0) (ov (rC (.int 3))))))))))) (ov (rC (.int 2147483647))))) (sSeq (sSet (gSet 4) (r2 modD (ov (r2 addD (ov (r2 mulD (op 3) (ov (r2 addD (ov (r2 modD (op 3) (ov (rC (.int 39373))))) (ov (r2 itemD (oz 0) (ov (rC (.int 3))))))))) (ov (r2 mulD (ov (rC (.int 31))) (ov (r2 itemD (oz 0) (ov (rC (.int 3))))))))) (ov (rC (.int 1999999973))))) (sRet (r2 modD (ov (r2 fdivD (op 4) (ov (rC (.int 7))))) (op 1)))))) (sNil)) (sSet (gItem 0 (ov (rC (.int 2)))) (rVar 2)))))) (sNil)) (sSeq (sSet (gSet 5) (r2 modD (ov (r2 itemD (oz 0) (ov (rC (.int 2))))) (op 1))) (sSeq (sSet (gItem 0 (ov (rC (.int 2)))) (r2 fdivD (ov (r2 itemD (oz 0) (ov (rC (.int 2))))) (op 1))) (sRet (rMv 5)))))
class H__law_draw (sem : Nat → CE) : Prop where
  h : ∀ (n : Nat) (args : List D), sem (n + 1) 39 args = fnRun 6 [true, false] (b__law_draw (sem n)) args
def b__law_both (C : CE) : SS :=
  sSeq (sPar 0 1 [rN absD [op 0], rN absD [op 1]]) (sSeq (sWhile (bVal (r2 gtD (op 1) (ov (rC (.int 0))))) (sPar 0 1 [rVar 1, r2 modD (op 0) (op 1)])) (sRet (rVar 0)))
class H__law_both (sem : Nat → CE) : Prop where
  h : ∀ (n : Nat) (args : List D), sem (n + 1) 40 args = fnRun 2 [false, false] (b__law_both (sem n)) args
def b__law_part (C : CE) : SS :=
  sSeq (sIf (bVal (r2 ltD (op 1) (ov (rC (.int 0))))) (sPar 0 1 [r1 negD (op 0), r1 negD (op 1)]) (sNil)) (sSeq (sSet (gSet 2) (rCall C 40 [.vw (ov (rVar 0)), .vw (ov (rVar 1))])) (sRet (rIf (bVal (r2 eqD (op 2) (op 1))) (r2 fdivD (op 0) (op 2)) (rTup [ov (r2 fdivD (op 0) (op 2)), ov (r2 fdivD (op 1) (op 2))]))))
class H__law_part (sem : Nat → CE) : Prop where
  h : ∀ (n : Nat) (args : List D), sem (n + 1) 41 args = fnRun 3 [false, false] (b__law_part (sem n)) args
def b__law_split (C : CE) : SS :=
  sRet (rIf (bTru (ov (rIsi isTupD (op 0)))) (rVar 0) (rTup [ov (rVar 0), ov (rC (.int 1))]))
class H__law_split (sem : Nat → CE) : Prop where
  h : ∀ (n : Nat) (args : List D), sem (n + 1) 42 args = fnRun 1 [false] (b__law_split (sem n)) args
def b__law_number (C : CE) : SS :=
  sSeq (sSet (gSet 2) (r2 subD (ov (rCall C 39 [.mu 0, .vw (ov (r2 addD (ov (r2 mulD (ov (rC (.int 2))) (op 1))) (ov (rC (.int 1)))))])) (op 1))) (sSeq (sSet (gSet 3) (rCall C 39 [.mu 0, .vw (ov (rC (.int 12)))])) (sSeq (sIf (bVal (r2 gtD (op 3) (ov (rC (.int 2))))) (sRet (rMv 2)) (sNil)) (sSeq (sIf (bVal (r2 eqD (op 3) (ov (rC (.int 2))))) (sSeq (sSet (gSet 4) (r2 addD (ov (r2 subD (ov (r2 mulD (ov (rC (.int 4))) (ov (r2 powD (ov (rC (.int 10))) (ov (rC (.int 9))))))) (ov (rC (.int 3))))) (ov (rCall C 39 [.mu 0, .vw (ov (rC (.int 7)))])))) (sRet (rCall C 41 [.vw (ov (rVar 4)), .vw (ov (r2 addD (ov (r2 mulD (ov (rC (.int 2))) (op 4))) (ov (rC (.int 1)))))]))) (sNil)) (sRet (rCall C 41 [.vw (ov (rVar 2)), .vw (ov (r2 itemD (ov (rLst [rC (.int 2), rC (.int 3), rC (.int 4), rC (.int 5), rC (.int 6), rC (.int 7), rC (.int 12), rC (.int 13)])) (ov (rCall C 39 [.mu 0, .vw (ov (rC (.int 8)))]))))])))))
class H__law_number (sem : Nat → CE) : Prop where
  h : ∀ (n : Nat) (args : List D), sem (n + 1) 43 args = fnRun 5 [true, false] (b__law_number (sem n)) args
def b__law_span (C : CE) : SS :=
  sRet (r2 itemD (ov (rLst [rC (.int 3), rC (.int 3), rC (.int 6), rC (.int 6), rC (.int 12), rC (.int 12), rC (.int 40), rC (.int 999)])) (ov (rCall C 39 [.mu 0, .vw (ov (rC (.int 8)))])))
class H__law_span (sem : Nat → CE) : Prop where
  h : ∀ (n : Nat) (args : List D), sem (n + 1) 44 args = fnRun 1 [true] (b__law_span (sem n)) args
def b__law_corner (C : CE) : SS :=
  sRet (rTup [ov (rCall C 43 [.mu 0, .vw (op 1)]), ov (rCall C 43 [.mu 0, .vw (op 1)])])
class H__law_corner (sem : Nat → CE) : Prop where
  h : ∀ (n : Nat) (args : List D), sem (n + 1) 57 args = fnRun 2 [true, false] (b__law_corner (sem n)) args
def b__law_points (C : CE) : SS :=
  sSeq (sSet (gSet 3) (rLc [.v (r2 addD (ov (rC (.int 1))) (ov (rCall C 39 [.mu 0, .vw (op 2)])))] range1D [4] (gSet 4) (bYes) (rCall C 57 [.mu 0, .vw (op 1)]))) (sRet (rTup [ov (rC (.str ("points" : PySem.Str))), ov (rN tupleD' [ov (rLc [.z 3] enumD [4, 5] (gTup' [gSet 4, gSet 5]) (bVal (r2 (inD true) (op 5) (ov (rSl (oz 3) noPart (aPart (op 4)))))) (rVar 5))])]))
class H__law_points (sem : Nat → CE) : Prop where
  h : ∀ (n : Nat) (args : List D), sem (n + 1) 58 args = fnRun 6 [true, false, false] (b__law_points (sem n)) args
def b__law_beside (C : CE) : SS :=
  sSeq (sSet (gTup' [gSet 1, gSet 2]) (rCall C 42 [.vw (ov (rVar 0))])) (sRet (rCall C 41 [.vw (ov (rIf (bVal (r2 gtD (op 1) (ov (rC (.int 0))))) (r2 subD (op 1) (op 2)) (r2 addD (oz 1) (oz 2)))), .vw (ov (rVar 2))]))
class H__law_beside (sem : Nat → CE) : Prop where
  h : ∀ (n : Nat) (args : List D), sem (n + 1) 59 args = fnRun 3 [false] (b__law_beside (sem n)) args
def b__law_row (C : CE) : SS :=
  sSeq (sSet (gSet 3) (rLst [rCall C 57 [.mu 0, .vw (op 1)]])) (sSeq (sFor [.v (r2 addD (ov (rC (.int 1))) (ov (rCall C 39 [.mu 0, .vw (ov (r2 subD (op 2) (ov (rC (.int 1)))))])))] range1D (gSet 4) (sSeq (sSet (gSet 5) (rCall C 57 [.mu 0, .vw (op 1)])) (sSeq (sIf (bVal (r2 eqD (op 5) (ov (r2 itemD (oz 3) (ov (r1 negD (ov (rC (.int 1))))))))) (sSet (gSet 5) (rTup [ov (r2 itemD (oz 5) (ov (rC (.int 0)))), ov (rCall C 59 [.vw (ov (r2 itemD (oz 5) (ov (rC (.int 1)))))])])) (sNil)) (sDrop (rMut 3 appendF [rVar 5]))))) (sSeq (sIf (bAnd (bVal (r2 eqD (ov (rCall C 39 [.mu 0, .vw (ov (rC (.int 4)))])) (ov (rC (.int 0))))) (bVal (r2 neD (ov (r2 itemD (oz 3) (ov (r1 negD (ov (rC (.int 1))))))) (ov (r2 itemD (oz 3) (ov (rC (.int 0)))))))) (sDrop (rMut 3 appendF [r2 itemD (oz 3) (ov (rC (.int 0)))])) (sNil)) (sRet (rN tupleD' [oz 3]))))
class H__law_row (sem : Nat → CE) : Prop where
  h : ∀ (n : Nat) (args : List D), sem (n + 1) 60 args = fnRun 6 [true, false, false] (b__law_row (sem n)) args
def b__law_rows (C : CE) : SS :=
  sRet (rTup [ov (rC (.str ("rows" : PySem.Str))), ov (rN tupleD' [ov (rLc [.v (r2 addD (ov (rC (.int 1))) (ov (rCall C 39 [.mu 0, .vw (op 3)])))] range1D [4] (gSet 4) (bYes) (rCall C 60 [.mu 0, .vw (op 1), .vw (op 2)]))])])
class H__law_rows (sem : Nat → CE) : Prop where
  h : ∀ (n : Nat) (args : List D), sem (n + 1) 61 args = fnRun 5 [true, false, false, false] (b__law_rows (sem n)) args
def b__law_rings (C : CE) : SS :=
  sSeq (sSet (gSet 1) (rTup [ov (rTup [ov (rC (.int 0)), ov (rC (.int 0))]), ov (rTup [ov (rC (.int 6)), ov (rC (.int 0))]), ov (rTup [ov (rC (.int 6)), ov (rC (.int 6))]), ov (rTup [ov (rC (.int 0)), ov (rC (.int 6))])])) (sSeq (sSet (gSet 2) (rLst [rLst [rVar 1], rLst [rTup [ov (rTup [ov (rC (.int 0)), ov (rC (.int 0))]), ov (rTup [ov (rC (.int 8)), ov (rC (.int 1))]), ov (rTup [ov (rC (.int 2)), ov (rC (.int 7))])]], rLst [rTup [ov (rTup [ov (rC (.int 0)), ov (rC (.int 0))]), ov (rTup [ov (rC (.int 8)), ov (rC (.int 0))]), ov (rTup [ov (rC (.int 8)), ov (rC (.int 3))]), ov (rTup [ov (rC (.int 3)), ov (rC (.int 3))]), ov (rTup [ov (rC (.int 3)), ov (rC (.int 8))]), ov (rTup [ov (rC (.int 0)), ov (rC (.int 8))])]]])) (sSeq (sDrop (rMut 2 appendF [rLst [rTup [ov (rTup [ov (rC (.int 0)), ov (rC (.int 0))]), ov (rTup [ov (rC (.int 9)), ov (rC (.int 0))]), ov (rTup [ov (rC (.int 9)), ov (rC (.int 9))]), ov (rTup [ov (rC (.int 0)), ov (rC (.int 9))])], rTup [ov (rTup [ov (rC (.int 2)), ov (rC (.int 2))]), ov (rTup [ov (rC (.int 7)), ov (rC (.int 2))]), ov (rTup [ov (rC (.int 7)), ov (rC (.int 7))]), ov (rTup [ov (rC (.int 2)), ov (rC (.int 7))])]]])) (sSeq (sDrop (rMut 2 appendF [rLst [rVar 1, rTup [ov (rTup [ov (rC (.int 0)), ov (rC (.int 4))]), ov (rTup [ov (rC (.int 2)), ov (rC (.int 2))]), ov (rTup [ov (rC (.int 3)), ov (rC (.int 5))])]]])) (sSeq (sDrop (rMut 2 appendF [rLst [rTup [ov (rTup [ov (rC (.int 0)), ov (rC (.int 0))]), ov (rTup [ov (rC (.int 4)), ov (rC (.int 0))]), ov (rTup [ov (rC (.int 4)), ov (rC (.int 4))]), ov (rTup [ov (rC (.int 0)), ov (rC (.int 4))])], rTup [ov (rTup [ov (rC (.int 4)), ov (rC (.int 4))]), ov (rTup [ov (rC (.int 8)), ov (rC (.int 4))]), ov (rTup [ov (rC (.int 8)), ov (rC (.int 8))]), ov (rTup [ov (rC (.int 4)), ov (rC (.int 8))])]]])) (sSeq (sDrop (rMut 2 appendF [rLst [rTup [ov (rTup [ov (rC (.int 0)), ov (rC (.int 0))]), ov (rTup [ov (rC (.int 4)), ov (rC (.int 4))]), ov (rTup [ov (rC (.int 8)), ov (rC (.int 0))]), ov (rTup [ov (rC (.int 8)), ov (rC (.int 8))]), ov (rTup [ov (rC (.int 4)), ov (rC (.int 4))]), ov (rTup [ov (rC (.int 0)), ov (rC (.int 8))])]]])) (sSeq (sDrop (rMut 2 appendF [rLst [rVar 1, rTup [ov (rTup [ov (rC (.int 1)), ov (rC (.int 1))]), ov (rTup [ov (rC (.int 3)), ov (rC (.int 1))]), ov (rTup [ov (rC (.int 3)), ov (rC (.int 3))]), ov (rTup [ov (rC (.int 1)), ov (rC (.int 3))])], rTup [ov (rTup [ov (rC (.int 3)), ov (rC (.int 3))]), ov (rTup [ov (rC (.int 5)), ov (rC (.int 3))]), ov (rTup [ov (rC (.int 5)), ov (rC (.int 5))]), ov (rTup [ov (rC (.int 3)), ov (rC (.int 5))])]]])) (sSeq (sDrop (rMut 2 appendF [rLst [rTup [ov (rTup [ov (rC (.int 0)), ov (rC (.int 0))]), ov (rTup [ov (rC (.int 9)), ov (rC (.int 0))]), ov (rTup [ov (rC (.int 9)), ov (rC (.int 9))]), ov (rTup [ov (rC (.int 0)), ov (rC (.int 9))])], rTup [ov (rTup [ov (rC (.int 1)), ov (rC (.int 1))]), ov (rTup [ov (rC (.int 8)), ov (rC (.int 1))]), ov (rTup [ov (rC (.int 8)), ov (rC (.int 8))]), ov (rTup [ov (rC (.int 1)), ov (rC (.int 8))])], rTup [ov (rTup [ov (rC (.int 3)), ov (rC (.int 3))]), ov (rTup [ov (rC (.int 6)), ov (rC (.int 3))]), ov (rTup [ov (rC (.int 4)), ov (rC (.int 6))])]]])) (sSeq (sDrop (rMut 2 appendF [rLst [rTup [ov (rTup [ov (rC (.int 0)), ov (rC (.int 0))]), ov (rTup [ov (rC (.int 3)), ov (rC (.int 0))]), ov (rTup [ov (rC (.int 3)), ov (rC (.int 2))]), ov (rTup [ov (rC (.int 0)), ov (rC (.int 2))])], rTup [ov (rTup [ov (rC (.int 5)), ov (rC (.int 0))]), ov (rTup [ov (rC (.int 8)), ov (rC (.int 0))]), ov (rTup [ov (rC (.int 8)), ov (rC (.int 2))]), ov (rTup [ov (rC (.int 5)), ov (rC (.int 2))])], rTup [ov (rTup [ov (rC (.int 3)), ov (rC (.int 2))]), ov (rTup [ov (rC (.int 5)), ov (rC (.int 2))]), ov (rTup [ov (rC (.int 4)), ov (rC (.int 6))])]]])) (sSeq (sDrop (rMut 2 appendF [rLc [.v (rC (.int 8))] range1D [3] (gSet 3) (bYes) (rTup [ov (rTup [ov (r2 mulD (ov (rC (.int 3))) (op 3)), ov (r2 modD (op 3) (ov (rC (.int 2))))]), ov (rTup [ov (r2 addD (ov (r2 mulD (ov (rC (.int 3))) (op 3))) (ov (rC (.int 2)))), ov (rC (.int 0))]), ov (rTup [ov (r2 addD (ov (r2 mulD (ov (rC (.int 3))) (op 3))) (ov (rC (.int 1)))), ov (rC (.int 3))])])])) (sRet (r2 itemD (oz 2) (ov (rCall C 39 [.mu 0, .vw (ov (rC (.int 11)))])))))))))))))
class H__law_rings (sem : Nat → CE) : Prop where
  h : ∀ (n : Nat) (args : List D), sem (n + 1) 62 args = fnRun 4 [true] (b__law_rings (sem n)) args
def b__law_patch (C : CE) : SS :=
  sSeq (sSet (gSet 2) (rLst [rTup [ov (rC (.int 1)), ov (rC (.int 0)), ov (rC (.int 0)), ov (rC (.int 1))], rTup [ov (rC (.int 0)), ov (r1 negD (ov (rC (.int 1)))), ov (rC (.int 1)), ov (rC (.int 0))], rTup [ov (rC (.int 1)), ov (rC (.int 1)), ov (rC (.int 0)), ov (rC (.int 1))], rTup [ov (rC (.int 2)), ov (rC (.int 0)), ov (rC (.int 0)), ov (rC (.int 1))], rTup [ov (rC (.int 1)), ov (rC (.int 0)), ov (r1 negD (ov (rC (.int 1)))), ov (rC (.int 1))], rTup [ov (r1 negD (ov (rC (.int 1)))), ov (rC (.int 0)), ov (rC (.int 0)), ov (rC (.int 1))]])) (sSeq (sSet (gTup' [gSet 3, gSet 4, gSet 5, gSet 6]) (r2 itemD (oz 2) (ov (rCall C 39 [.mu 0, .vw (ov (rC (.int 6)))])))) (sSeq (sSet (gSet 7) (r2 itemD (ov (rLst [rC (.int 1), rC (.int 1), rC (.int 1), rC (.int 2), rC (.int 3), rC (.int 10)])) (ov (rCall C 39 [.mu 0, .vw (ov (rC (.int 6)))])))) (sSeq (sSet (gTup' [gSet 8, gSet 9]) (rTup [ov (r2 subD (ov (rCall C 39 [.mu 0, .vw (ov (r2 addD (ov (r2 mulD (ov (rC (.int 2))) (op 1))) (ov (rC (.int 1)))))])) (op 1)), ov (r2 subD (ov (rCall C 39 [.mu 0, .vw (ov (r2 addD (ov (r2 mulD (ov (rC (.int 2))) (op 1))) (ov (rC (.int 1)))))])) (op 1))])) (sSeq (sSet (gSet 10) (rLst [])) (sSeq (sFor [.v (rCall C 62 [.mu 0])] itemsD (gSet 11) (sSeq (sSet (gSet 12) (rLc [.z 11] itemsD [13, 14] (gTup' [gSet 13, gSet 14]) (bYes) (rTup [ov (rCall C 41 [.vw (ov (r2 addD (ov (r2 addD (ov (r2 mulD (op 3) (op 13))) (ov (r2 mulD (op 4) (op 14))))) (oz 8))), .vw (ov (rVar 7))]), ov (rCall C 41 [.vw (ov (r2 addD (ov (r2 addD (ov (r2 mulD (op 5) (op 13))) (ov (r2 mulD (op 6) (op 14))))) (oz 9))), .vw (ov (rVar 7))])]))) (sSeq (sSet (gSet 15) (rCall C 39 [.mu 0, .vw (ov (rN lenD [op 12]))])) (sSeq (sSet (gSet 12) (r2 addD (ov (rSl (oz 12) (aPart (op 15)) noPart)) (ov (rSl (oz 12) noPart (aPart (op 15)))))) (sSeq (sIf (bVal (r2 eqD (ov (rCall C 39 [.mu 0, .vw (ov (rC (.int 2)))])) (ov (rC (.int 0))))) (sDrop (rMut 12 reverseF [])) (sNil)) (sDrop (rMut 10 appendF [rN tupleD' [oz 12]]))))))) (sRet (rTup [ov (rC (.str ("patch" : PySem.Str))), ov (rN tupleD' [oz 10])])))))))
class H__law_patch (sem : Nat → CE) : Prop where
  h : ∀ (n : Nat) (args : List D), sem (n + 1) 63 args = fnRun 16 [true, false] (b__law_patch (sem n)) args
def b__law_shape (C : CE) : SS :=
  sSeq (sSet (gSet 1) (rCall C 44 [.mu 0])) (sSeq (sSet (gSet 2) (rCall C 39 [.mu 0, .vw (ov (rC (.int 4)))])) (sSeq (sIf (bVal (r2 eqD (op 2) (ov (rC (.int 0))))) (sRet (rCall C 58 [.mu 0, .vw (op 1), .vw (ov (r2 itemD (ov (rLst [rC (.int 4), rC (.int 12)])) (ov (rCall C 39 [.mu 0, .vw (ov (rC (.int 2)))]))))])) (sNil)) (sSeq (sIf (bVal (r2 eqD (op 2) (ov (rC (.int 1))))) (sSeq (sSet (gTup' [gSet 3, gSet 4]) (r2 itemD (ov (rLst [rTup [ov (rC (.int 3)), ov (rC (.int 2))], rTup [ov (rC (.int 9)), ov (rC (.int 2))], rTup [ov (rC (.int 3)), ov (rC (.int 8))], rTup [ov (rC (.int 4)), ov (rC (.int 7))]])) (ov (rCall C 39 [.mu 0, .vw (ov (rC (.int 4)))])))) (sRet (rCall C 61 [.mu 0, .vw (op 1), .vw (op 3), .vw (op 4)]))) (sNil)) (sRet (rCall C 63 [.mu 0, .vw (ov (rN min2A [op 1, ov (rC (.int 900))]))])))))
class H__law_shape (sem : Nat → CE) : Prop where
  h : ∀ (n : Nat) (args : List D), sem (n + 1) 64 args = fnRun 5 [true] (b__law_shape (sem n)) args

variable {sem : Nat → CE} {s : Nat} {x y : D}
theorem D_hand [H__law_hand sem] (n : Nat) (ns : List Int) : ∃ h, sem (n + 1) 38 [.lst false (ns.map .int)] = .ok (h, []) ∧ Hnd 0 h := by
  rw [H__law_hand.h (sem := sem)]; exact hand_ok ns
theorem D_draw [H__law_draw sem] {n m : Nat} {h : D} {many : Int} {Q : D × List D → Prop} (hh : Hnd m h) (hn : m < 2 ^ 62) (h0 : 0 < many) (h1 : many < 2 ^ 60) (k : ∀ r h', 0 ≤ r → r < many → Hnd (m + 1) h' → Q (.int r, [h'])) : wR (sem (n + 1) 39 [h, .int many]) Q := by
  rw [H__law_draw.h (sem := sem)]
  refine wR_mono (draw_ok hh hn h0 (Int.lt_of_lt_of_le h1 (by decide +kernel))) fun q hq => ?_
  obtain ⟨r, h', rfl, a, b, c⟩ := hq
  exact k r h' a b c
theorem F_both [H__law_both sem] (n : Nat) {a b : Int} {s : Nat} (ha : a.natAbs < 2 ^ s) (hb : b.natAbs < 2 ^ s) (hs : s ≤ 1000000) : sem (n + 1) 40 [.int a, .int b] = .ok (.int (Int.gcd a b), []) := by
  apply wR_get
  rw [H__law_both.h (sem := sem)]
  unfold b__law_both
  and_intros
  simp only [abs_nat]
  refine w_while (fun m ds => ∃ x y : Nat, Eu m x y ∧ Nat.gcd x y = Int.gcd a b ∧ ds = [.own (.int x), .own (.int y)]) (s + s + 1) (by omega) ⟨_, _, eu_start ha hb, rfl, rfl⟩ ?_
  rintro m ds ⟨x, y, he, hg, rfl⟩
  and_intros
  refine cIf_split (fun h => ?_) fun h => ?_
  · and_intros
    obtain ⟨h1, h2⟩ := eu_step he (by omega)
    refine ⟨h1, modOk_p (by omega), y, x % y, h2, ?_, ?_⟩
    · rw [← hg, Nat.gcd_comm y, ← Nat.gcd_rec, Nat.gcd_comm]
    · rw [Int.fmod_eq_emod_of_nonneg _ (by omega)]; rfl
  · have : y = 0 := by omega
    subst this
    and_intros
    rw [← hg, Nat.gcd_zero_right]
theorem F_part [H__law_both sem] [H__law_part sem] (n : Nat) {t b : Int} {s : Nat} (hb : 0 < b) (ht : t.natAbs < 2 ^ s) (hs : b.natAbs < 2 ^ s) (h9 : s < 9000) : sem (n + 2) 41 [.int t, .int b] = .ok (numOf t b, []) := by
  apply wR_get
  rw [H__law_part.h (sem := sem)]
  unfold b__law_part
  and_intros
  refine cIf_neg (by omega) ?_
  have e := F_both (sem := sem) n ht hs (by omega)
  nofun
  obtain ⟨x, y, h1, h2, h3, h4, h5, h6, h7⟩ := gcd_facts (t := t) hb
  have hgs : ((Int.gcd t b : Int)).natAbs < 2 ^ s := by
    refine Nat.lt_of_le_of_lt ?_ hs
    have := Int.le_of_dvd hb (Int.gcd_dvd_right (a := t) (b := b))
    omega
  have hf : ∀ i : Int, fdivOk i (Int.gcd t b) = true := fun i => fdivOk_x h4 hgs h9
  refine cIf_split (fun h => ?_) fun h => ?_
  · and_intros
    refine ⟨hf _, ?_⟩
    rw [numOf, if_pos h.symm]
  · and_intros
    refine ⟨hf _, hf _, ?_⟩
    rw [numOf, if_neg fun z => h z.symm]
theorem F_split [H__law_split sem] (n : Nat) {d : D} {s : Nat} (h : Num s d) : sem (n + 1) 42 [d] = .ok (.tup [.int (topD d), .int (belD d)], []) := by
  apply wR_get
  rw [H__law_split.h (sem := sem)]
  unfold b__law_split
  rcases h.cases with ⟨a, rfl, _⟩ | ⟨a, b, rfl, _⟩ <;> (and_intros; rfl)
theorem D_span [H__law_draw sem] [H__law_span sem] {n m : Nat} {h : D} {Q : D × List D → Prop} (hh : Hnd m h) (hn : m < 2 ^ 62) (k : ∀ r h', 3 ≤ r → r ≤ 999 → Hnd (m + 1) h' → Q (.int r, [h'])) : wR (sem (n + 2) 44 [h]) Q := by
  rw [H__law_span.h (sem := sem)]
  unfold b__law_span
  and_intros
  refine D_draw hh hn (by omega) (by omega) fun r h' r0 r1 hh' => ?_
  and_intros
  obtain ⟨x, e, hx⟩ := at_in (xs := [D.int 3, D.int 3, D.int 6, D.int 6, D.int 12, D.int 12, D.int 40, D.int 999]) r0 r1
  refine gIx_of e ?_
  simp only [List.mem_cons, List.not_mem_nil, or_false] at hx
  rcases hx with rfl | rfl | rfl | rfl | rfl | rfl | rfl | rfl <;> (and_intros; exact k _ _ (by omega) (by omega) hh')
theorem D_number [H__law_draw sem] [H__law_both sem] [H__law_part sem] [H__law_number sem] {n m : Nat} {h : D} {sp : Int} {Q : D × List D → Prop} (hh : Hnd m h) (hn : m < 2 ^ 61) (s0 : 3 ≤ sp) (s1 : sp ≤ 999) (k : ∀ d h', Num 33 d → Hnd (m + 3) h' → Q (d, [h'])) : wR (sem (n + 3) 43 [h, .int sp]) Q := by
  rw [H__law_number.h (sem := sem)]
  unfold b__law_number
  and_intros
  refine D_draw hh (by omega) (by omega) (by omega) fun q1 h1 a1 b1 hh => ?_
  and_intros
  refine D_draw hh (by omega) (by omega) (by omega) fun q2 h2 a2 b2 hh => ?_
  and_intros
  refine cIf_split (fun h => ?_) fun h => ?_
  · and_intros
    exact k _ _ (show (q1 - sp).natAbs < 2 ^ 33 by omega) (hh.mono (by omega))
  · and_intros
    refine cIf_split (fun h => ?_) fun h => ?_
    · and_intros
      refine D_draw hh (by omega) (by omega) (by omega) fun q3 h3 a3 b3 hh => ?_
      and_intros
      have e := F_part (sem := sem) n (t := 3999999997 + q3) (b := 2 * (3999999997 + q3) + 1) (s := 33) (by omega) (by omega) (by omega) (by omega)
      nofun
      exact k _ _ (numOf_num (by omega) (by omega) (by omega)) (hh.mono (by omega))
    · and_intros
      refine D_draw hh (by omega) (by omega) (by omega) fun q3 h3 a3 b3 hh => ?_
      and_intros
      obtain ⟨x, e, hx⟩ := at_in (xs := [D.int 2, D.int 3, D.int 4, D.int 5, D.int 6, D.int 7, D.int 12, D.int 13]) a3 b3
      refine gIx_of e ?_
      have hx2 : ∃ b : Int, x = .int b ∧ 2 ≤ b ∧ b ≤ 13 := by
        simp only [List.mem_cons, List.not_mem_nil, or_false] at hx
        rcases hx with rfl | rfl | rfl | rfl | rfl | rfl | rfl | rfl <;> exact ⟨_, rfl, by omega, by omega⟩
      obtain ⟨b, rfl, hb0, hb1⟩ := hx2
      have e := F_part (sem := sem) n (t := q1 - sp) (b := b) (s := 33) (by omega) (by omega) (by omega) (by omega)
      nofun
      exact k _ _ (numOf_num (by omega) (by omega) (by omega)) (hh.mono (by omega))
theorem D_corner [H__law_draw sem] [H__law_both sem] [H__law_part sem] [H__law_number sem] [H__law_corner sem] {n m : Nat} {h : D} {sp : Int} {Q : D × List D → Prop} (hh : Hnd m h) (hn : m < 2 ^ 60) (s0 : 3 ≤ sp) (s1 : sp ≤ 999) (k : ∀ d h', Cor 33 d → Hnd (m + 6) h' → Q (d, [h'])) : wR (sem (n + 4) 57 [h, .int sp]) Q := by
  rw [H__law_corner.h (sem := sem)]
  unfold b__law_corner
  and_intros
  refine D_number hh (by omega) s0 s1 fun x h1 hx hh => ?_
  have f1 := hx.frz; have f2 := hx.fz
  nofun
  refine D_number hh (by omega) s0 s1 fun y h2 hy hh => ?_
  have g1 := hy.frz; have g2 := hy.fz
  nofun
  exact k _ _ ⟨_, _, rfl, hx, hy⟩ hh
theorem D_points [H__law_draw sem] [H__law_both sem] [H__law_part sem] [H__law_number sem] [H__law_corner sem] [H__law_points sem] {n m : Nat} {h : D} {sp most : Int} {Q : D × List D → Prop} (hh : Hnd m h) (hn : m < 2 ^ 59) (s0 : 3 ≤ sp) (s1 : sp ≤ 999) (m0 : 1 ≤ most) (m1 : most ≤ 12)
    (k : ∀ cs h', (∀ c ∈ cs, Cor 33 c) → cs ≠ [] → cs.length ≤ 12 → cs.Nodup → Hnd (m + 73) h' → Q (.tup [.str ("points" : PySem.Str), .tup cs], [h'])) : wR (sem (n + 5) 58 [h, .int sp, .int most]) Q := by
  rw [H__law_points.h (sem := sem)]
  unfold b__law_points
  and_intros
  refine D_draw hh (by omega) (by omega) (by omega) fun q1 h1 a1 b1 hh => ?_
  and_intros
  refine ⟨by omega, ?_⟩
  refine w_lc (fun i out ds => ∃ h s4, ds = [.own h, .lk (.int sp), .lk (.int most), .no, s4, .no] ∧ Hnd (m + 1 + 6 * i) h ∧ out.length = i ∧ ∀ c ∈ out, Cor 33 c) ⟨_, _, rfl, hh, rfl, fun c hc => nomatch hc⟩ (fun i x ds out hx hI => ?_) (fun out ds hI => ?_)
  · obtain ⟨h2, s4, rfl, hh, hl, hc⟩ := hI
    obtain ⟨hi, rfl⟩ := rangeL_get hx
    nofun
    refine D_corner hh (by omega) s0 s1 fun c h3 hc3 hh => ?_
    nofun
    refine ⟨_, _, rfl, hh.mono (by omega), by simp [hl], fun z hz => ?_⟩
    rcases List.mem_append.mp hz with hz | hz
    · exact hc z hz
    · rw [List.mem_singleton.mp hz]; exact hc3
  · obtain ⟨h2, s4, rfl, hh, hl, hc⟩ := hI
    rw [rangeL_len] at hl hh
    have hh := hh.mono (show m + 1 + 6 * (1 + q1).toNat ≤ m + 73 by omega)
    have hl1 : 1 ≤ out.length := by omega
    have hl12 : out.length ≤ 12 := by omega
    clear hl
    have hfz := cors_fz hc
    have hfr := frzs_of hfz
    have hpl : ∀ c ∈ out, c.pl 2 = true := fun c hcc => (hc c hcc).pl
    nofun
    refine ⟨by unfold sizeLine; omega, ?_⟩
    refine w_lc (fun i o2 ds => ∃ s4 s5, ds = [.own h2, .lk (.int sp), .lk (.int most), .lk (.lst true out), s4, s5] ∧ o2.length ≤ i ∧ (∀ c, c ∈ o2 ↔ c ∈ out.take i) ∧ o2.Nodup) ⟨_, _, rfl, Nat.le_refl _, fun c => by simp, .nil⟩ (fun i x ds o2 hx hI => ?_) (fun o2 ds hI => ?_)
    · obtain ⟨s4, s5, rfl, hl2, hm, hnd⟩ := hI
      rw [List.getElem?_zipWith] at hx
      have hi : i < out.length := by
        rcases Nat.lt_or_ge i out.length with h | h
        · exact h
        · rw [List.getElem?_eq_none (l := out) h] at hx
          simp at hx
      obtain ⟨c, hcx⟩ : ∃ c, out[i]? = some c := ⟨out[i], by simp [hi]⟩
      rw [hcx, List.getElem?_map, List.getElem?_range hi] at hx
      cases hx
      have hcm := List.mem_of_getElem? hcx
      have hc1 := hc c hcm
      have g1 := hc1.fz; have g2 := frz_of g1
      have t1 : cutL out none (some (i : Int)) = out.take i := cutL_upto
      have t2 := in_plL (neg := true) (o := false) (d := c) (es := out.take i) hc1.pl (fun e he => hpl e (List.mem_of_mem_take he)) (by omega) (by omega)
      have t3 : isFzs (out.take i) = true := cors_fz fun e he => hc e (List.mem_of_mem_take he)
      have t4 := frzs_of t3
      have tk : out.take (i + 1) = out.take i ++ [c] := by rw [List.take_add_one, hcx]; rfl
      unfold pairD
      nofun
      simp only [Bool.bne_true, cIf_n]
      refine cIf_split (fun h => ?_) fun h => ?_
      · nofun
        refine ⟨_, _, rfl, by omega, fun z => ?_⟩
        rw [List.mem_append, List.mem_singleton]
        exact ⟨.inl, fun z2 => z2.elim id fun e => e ▸ h⟩
      · nofun
        refine ⟨_, _, rfl, by simp; omega, fun z => ?_, ?_⟩
        · rw [List.mem_append, List.mem_append, hm z]
        · rw [List.nodup_append]
          refine ⟨hnd, by simp, fun a ha b hb => ?_⟩
          rw [List.mem_singleton.mp hb]
          intro e
          exact h (e ▸ (hm a).mp ha)
    · obtain ⟨s4, s5, rfl, hl2, hm, hnd⟩ := hI
      rw [List.length_zipWith, List.length_map, List.length_range, Nat.min_self] at hl2 hm
      rw [List.take_length] at hm
      have ho2 : ∀ c ∈ o2, Cor 33 c := fun c hcc => hc c ((hm c).mp hcc)
      have z1 := cors_fz ho2
      have z2 := frzs_of z1
      nofun
      refine ⟨by unfold sizeLine; omega, k o2 h2 ho2 (fun e => ?_) (by omega) hnd hh⟩
      subst e
      have : out ≠ [] := fun e => by subst e; simp at hl1
      obtain ⟨c, hcc⟩ := List.exists_mem_of_ne_nil out this
      exact absurd ((hm c).mpr hcc) (by simp)
def besideD (x : D) : D := numOf (if 0 < topD x then topD x - belD x else topD x + belD x) (belD x)
theorem beside_num (h : Num s x) (h0 : 0 < s) : Num (s + 1) (besideD x) := by
  refine numOf_num (bel_pos h) ?_ (nb_le (h.bel h0) (by omega))
  split
  · exact nb_sub h.top (h.bel h0)
  · exact nb_add h.top (h.bel h0)
theorem beside_ne (h : Num s x) : besideD x ≠ x := by
  intro e
  have b := bel_pos h
  have h1 := numOf_val (t := if 0 < topD x then topD x - belD x else topD x + belD x) b
  have e2 : numOf (if 0 < topD x then topD x - belD x else topD x + belD x) (belD x) = x := e
  rw [e2] at h1
  have h2 := Int.eq_of_mul_eq_mul_right (by omega) h1
  split at h2 <;> omega
theorem F_beside [H__law_both sem] [H__law_part sem] [H__law_split sem] [H__law_beside sem] (n : Nat) (h : Num s x) (h0 : 0 < s) (hs : s + 1 < 9000) : sem (n + 3) 59 [x] = .ok (besideD x, []) := by
  apply wR_get
  rw [H__law_beside.h (sem := sem)]
  unfold b__law_beside
  have f1 := h.fz; have f2 := h.frz; have f3 := h.fz1; have f4 := h.frz1
  have a1 := F_split (sem := sem) (n + 1) h
  have hb := bel_pos h
  nofun
  refine cIf_split (fun hc => ?_) fun hc => ?_
  · have a2 := F_part (sem := sem) n (t := topD x - belD x) (b := belD x) (s := s + 1) hb (nb_sub h.top (h.bel h0)) (nb_le (h.bel h0) (by omega)) hs
    nofun
    rw [besideD, if_pos hc]
  · have a2 := F_part (sem := sem) n (t := topD x + belD x) (b := belD x) (s := s + 1) hb (nb_add h.top (h.bel h0)) (nb_le (h.bel h0) (by omega)) hs
    nofun
    rw [besideD, if_neg hc]
def Goes (l : List D) : Prop := ∀ (i : Nat) (a b : D), l[i]? = some a → l[i + 1]? = some b → a ≠ b
theorem Goes.one {a : D} : Goes [a] := fun i a b _ h => by simp at h
theorem Goes.snoc {l : List D} {z x : D} (h : Goes l) (hz : l[l.length - 1]? = some z) (n : z ≠ x) : Goes (l ++ [x]) := by
  intro i a b ha hb
  rcases Nat.lt_or_ge (i + 1) l.length with hi | hi
  · rw [List.getElem?_append_left (by omega)] at ha
    rw [List.getElem?_append_left hi] at hb
    exact h i a b ha hb
  · have hl : i + 1 < (l ++ [x]).length := by
      rcases Nat.lt_or_ge (i + 1) (l ++ [x]).length with h | h
      · exact h
      · rw [List.getElem?_eq_none h] at hb; cases hb
    rw [List.length_append, List.length_singleton] at hl
    have e : i + 1 = l.length := by omega
    rw [List.getElem?_append_left (by omega)] at ha
    rw [List.getElem?_append_right (by omega), e, Nat.sub_self] at hb
    cases hb
    rw [show l.length - 1 = i by omega, ha] at hz
    cases hz
    exact n
theorem at_last {α : Type} {xs : List α} (h : 0 < xs.length) : ∃ x, atI xs (-1) = some x ∧ x ∈ xs ∧ xs[xs.length - 1]? = some x := by
  have hx : xs.length - 1 < xs.length := by omega
  refine ⟨xs[xs.length - 1], ?_, List.getElem_mem hx, by simp [hx]⟩
  unfold atI ixN
  rw [if_neg (by omega), if_pos (by omega)]
  have : ((-1 : Int) + (xs.length : Int)).toNat = xs.length - 1 := by omega
  show xs[_]? = _
  rw [this]
  simp
structure RowOk (s : Nat) (l : List D) : Prop where
  two : 2 ≤ l.length
  few : l.length ≤ 12
  cor : ∀ c ∈ l, Cor s c
  goes : Goes l
theorem app_cor {l : List D} {c : D} {s : Nat} (h : ∀ z ∈ l, Cor s z) (hc : Cor s c) : ∀ z ∈ l ++ [c], Cor s z := fun z hz => by
  rcases List.mem_append.mp hz with hz | hz
  · exact h z hz
  · rw [List.mem_singleton.mp hz]; exact hc
theorem D_row [H__law_draw sem] [H__law_both sem] [H__law_part sem] [H__law_split sem] [H__law_beside sem] [H__law_number sem] [H__law_corner sem] [H__law_row sem] {n m : Nat} {h : D} {sp most : Int} {Q : D × List D → Prop} (hh : Hnd m h) (hn : m < 2 ^ 59) (s0 : 3 ≤ sp) (s1 : sp ≤ 999) (m0 : 2 ≤ most) (m1 : most ≤ 9)
    (k : ∀ l h', RowOk 34 l → Hnd (m + 68) h' → Q (.tup l, [h'])) : wR (sem (n + 5) 60 [h, .int sp, .int most]) Q := by
  rw [H__law_row.h (sem := sem)]
  unfold b__law_row
  and_intros
  refine D_corner hh (by omega) s0 s1 fun c1 h1 hc1 hh => ?_
  nofun
  refine D_draw hh (by omega) (by omega) (by omega) fun q1 h1 a1 b1 hh => ?_
  and_intros
  refine ⟨by omega, ?_⟩
  refine w_loop (fun i ds => ∃ h l s4 s5, ds = [.own h, .lk (.int sp), .lk (.int most), .own (.lst true l), s4, s5] ∧ Hnd (m + 7 + 6 * i) h ∧ l.length = 1 + i ∧ (∀ c ∈ l, Cor 34 c) ∧ Goes l) (j := 0) ⟨_, _, _, _, rfl, hh, rfl, fun c hc => by rw [List.mem_singleton.mp hc]; exact hc1.mono (by omega), Goes.one⟩ (fun i x ds hx hI => ?_) (fun ds hI => ?_)
  · obtain ⟨h2, l, s4, s5, rfl, hh, hl, hc, hg⟩ := hI
    obtain ⟨hi, rfl⟩ := rangeL_get hx
    rw [Nat.zero_add] at *
    have ll : 0 < l.length := by omega
    have l10 : l.length ≤ 10 := by omega
    obtain ⟨z, ez, hz, ez2⟩ := at_last ll
    have hfz := cors_fz hc
    have hfr := frzs_of hfz
    have hzc := hc z hz
    have z1 := hzc.fz; have z2 := frz_of z1
    nofun
    refine D_corner hh (by omega) s0 s1 fun c h3 hc3 hh => ?_
    have w1 := hc3.fz; have w2 := frz_of w1
    have e1 := eq_pl hc3.pl hzc.pl (by omega) (by omega)
    nofun
    refine cIf_split (fun hq => ?_) fun hq => ?_
    · obtain ⟨p, q, rfl, hp, hq2⟩ := hc3
      subst hq
      have b1 := F_beside (sem := sem) (n + 1) hq2 (by omega) (by omega)
      have b2 := beside_num hq2 (by omega)
      have b3 := b2.frz; have b4 := b2.fz; have b5 := hp.frz; have b6 := hp.fz; have b7 := hq2.frz; have b8 := hq2.fz
      nofun
      refine ⟨by unfold sizeLine; omega, _, _, _, _, rfl, hh.mono (by omega), by simp; omega, app_cor hc ⟨_, _, rfl, hp.mono (by omega), b2⟩, hg.snoc ez2 ?_⟩
      intro e
      simp only [D.tup.injEq, List.cons.injEq, and_true, true_and] at e
      exact beside_ne hq2 e.symm
    · nofun
      refine ⟨by unfold sizeLine; omega, _, _, _, _, rfl, hh.mono (by omega), by simp; omega, app_cor hc (hc3.mono (by omega)), hg.snoc ez2 fun e => hq e.symm⟩
  · obtain ⟨h2, l, s4, s5, rfl, hh, hl, hc, hg⟩ := hI
    rw [Nat.zero_add, rangeL_len] at hl hh
    have hh := hh.mono (show m + 7 + 6 * (1 + q1).toNat ≤ m + 7 + 60 by omega)
    have ll : 2 ≤ l.length := by omega
    have l10 : l.length ≤ 10 := by omega
    clear hl
    obtain ⟨z, ez, hz, ez2⟩ := at_last (show 0 < l.length by omega)
    obtain ⟨y, ey⟩ : ∃ y, l[0]? = some y := ⟨l[0]'(by omega), by simp [show 0 < l.length by omega]⟩
    have hy := List.mem_of_getElem? ey
    have hfz := cors_fz hc
    have hfr := frzs_of hfz
    have hzc := hc z hz
    have z1 := hzc.fz; have z2 := frz_of z1
    have hyc := hc y hy
    have y1 := hyc.fz; have y2 := frz_of y1
    have e1 := ne_pl hzc.pl hyc.pl (by omega) (by omega)
    nofun
    refine D_draw hh (by omega) (by omega) (by omega) fun q2 h3 a2 b2 hh => ?_
    nofun
    refine cIf_split (fun hq => ?_) fun hq => ?_
    · nofun
      refine cIf_split (fun he => ?_) fun he => ?_
      · nofun
        exact k _ _ ⟨ll, by omega, hc, hg⟩ (hh.mono (by omega))
      · have y3 : isFzs (l ++ [y]) = true := cors_fz (app_cor hc hyc)
        have y4 := frzs_of y3
        nofun
        exact ⟨by unfold sizeLine; omega, k _ _ ⟨by simp; omega, by simp; omega, app_cor hc hyc, hg.snoc ez2 he⟩ (hh.mono (by omega))⟩
    · nofun
      exact k _ _ ⟨ll, by omega, hc, hg⟩ (hh.mono (by omega))
theorem D_rows [H__law_draw sem] [H__law_both sem] [H__law_part sem] [H__law_split sem] [H__law_beside sem] [H__law_number sem] [H__law_corner sem] [H__law_row sem] [H__law_rows sem] {n m : Nat} {h : D} {sp most many : Int} {Q : D × List D → Prop} (hh : Hnd m h) (hn : m < 2 ^ 58) (s0 : 3 ≤ sp) (s1 : sp ≤ 999) (m0 : 2 ≤ most) (m1 : most ≤ 9) (k0 : 1 ≤ many) (k1 : many ≤ 8)
    (k : ∀ ls h', ls ≠ [] → ls.length ≤ 8 → (∀ l ∈ ls, RowOk 34 l) → Hnd (m + 545) h' → Q (.tup [.str ("rows" : PySem.Str), .tup (ls.map .tup)], [h'])) : wR (sem (n + 6) 61 [h, .int sp, .int most, .int many]) Q := by
  rw [H__law_rows.h (sem := sem)]
  unfold b__law_rows
  and_intros
  refine D_draw hh (by omega) (by omega) (by omega) fun q1 h1 a1 b1 hh => ?_
  and_intros
  refine ⟨by omega, ?_⟩
  refine w_lc (fun i out ds => ∃ h s4 ls, ds = [.own h, .lk (.int sp), .lk (.int most), .lk (.int many), s4] ∧ Hnd (m + 1 + 68 * i) h ∧ out = ls.map D.tup ∧ ls.length = i ∧ ∀ l ∈ ls, RowOk 34 l) ⟨_, _, [], rfl, hh, rfl, rfl, fun c hc => nomatch hc⟩ (fun i x ds out hx hI => ?_) (fun out ds hI => ?_)
  · obtain ⟨h2, s4, ls, rfl, hh, rfl, hl, hc⟩ := hI
    obtain ⟨hi, rfl⟩ := rangeL_get hx
    nofun
    refine D_row hh (by omega) s0 s1 m0 m1 fun c h3 hc3 hh => ?_
    nofun
    refine ⟨_, _, ls ++ [c], rfl, hh.mono (by omega), by simp, by simp [hl], fun z hz => ?_⟩
    rcases List.mem_append.mp hz with hz | hz
    · exact hc z hz
    · rw [List.mem_singleton.mp hz]; exact hc3
  · obtain ⟨h2, s4, ls, rfl, hh, rfl, hl, hc⟩ := hI
    rw [rangeL_len] at hl hh
    have hh := hh.mono (show m + 1 + 68 * (1 + q1).toNat ≤ m + 545 by omega)
    have hl1 : 1 ≤ ls.length := by omega
    have hl12 : ls.length ≤ 8 := by omega
    clear hl
    nofun
    exact ⟨by unfold sizeLine; omega, k ls h2 (fun e => by subst e; simp at hl1) hl12 hc hh⟩
end Vd
end
section
namespace Vd
open PySem L2
local macro_rules | `(tactic| and_intros) => `(tactic| simp only [frzs_tups, isFzs_tups, wR_ok, wR_bind, w_C, w_Var, g_Var1, g_Var2, w_Mv, g_Mv1, g_Mv2, w_End, w_ov, w_op, g_Op1, g_Op2, w_oz, g_Oz1, g_Oz2, w_1, w_2, w_Not, w_Isi, w_Isi2, w_Ops0, w_Ops1, w_Tup, w_N, w_Sl, w_noPart, w_aPart, k_Part, w_Chain, isB_bl, cIf_t, cIf_f, cIf_n, w_ChainE, w_If, w_And, w_Or, w_Tru, w_Val, w_BAnd, w_BOr, w_BNot, w_BYes, w_Nil, w_Br, w_Ct, g_nx, g_br, g_ct, g_rt, w_Seq, w_SIf, w_Ret, w_Drop, w_Set, g_Set, g_Tup1, g_Tup2, g_All0, g_All1, isI_int, g_Item, q_Item, w_Q0, w_Q1, w_Lst, w_Par, w_Mut, g_Mu1, g_Mu2, v_append, k_Ext, w_Ext, g_Ex1, g_Ex2, w_Call, w_Args0, w_Args1, w_Args2, g_Ar, k_Call, w_As0, w_As1, w_As2, g_As, putm0, putm1, putm2, w_O0, w_O1, w_O2, q_rt, q_nx, w_fn, slots0, slots1, slots2, aft_nx, aft_ct, aft_br, aft_rt, w_sO0, w_sO1, w_sv, w_sp, g_Sp1, g_Sp2, w_sz, g_Sz1, g_Sz2, w_For, k_For, w_Lc, w_eO0, w_eO1, w_ev, w_ep, w_ez, k_Lc, v_add, v_addL, v_addT, v_sub, v_mul, v_fdiv, v_mod, v_pow, v_neg, v_lt, v_le, v_gt, v_ge, shp_int, shp_bl, shp_non, v_eq, v_ne, v_eqB, g_Ix, v_ixL, v_ixT, g_X, v_idx, v_lenL, v_lenT, v_abs, v_max, v_min, v_tup, v_list, v_listT, v_tuple, v_tupleT, v_slL, v_slT, v_truB, v_truI, v_truT, v_truL, v_truN, v_itL, v_itT, v_r1, v_r2, v_isB, v_isN, v_isntN, List.getElem?_cons_zero, List.getElem?_cons_succ, List.set_cons_zero, List.set_cons_succ, List.length_cons, List.length_nil, List.cons_append, List.nil_append, List.append_nil, List.replicate_succ, List.replicate_zero, D.frz, frzs, D.isFz, isFzs, dwipe, restore, relk, Bool.and_true, Bool.true_and, Bool.and_false, Bool.false_and, Bool.or_true, Bool.true_or, Bool.or_false, Bool.false_or, Bool.not_true, Bool.not_false, and_true, true_and, at_of, ix_of, frzs_ints, isFzs_ints, List.length_map, Int.toNat_natCast, ↓reduceIte, Nat.reduceAdd, Nat.reduceSub, Nat.reduceLT, Nat.reduceLeDiff, Int.reduceLT, Int.reduceLE, Int.reduceEq, Int.reduceAdd, Int.reduceSub, Int.reduceMul, Int.reduceNeg, Int.reduceToNat, Int.reducePow, Int.reduceBNe, Int.reduceBEq, reduceCtorEq, mulOk_l, mulOk_r, fdivOk_s, modOk_p, powOk_s, cast_of, small_le, small_lt, filt_yes, frzs_bls, v_anyB, v_allB, cutL_map, c_isIntDN, c_isIntDB, c_isIntDI, c_isIntDS, c_isIntDT, c_isIntDL, c_isBoolDN, c_isBoolDB, c_isBoolDI, c_isBoolDS, c_isBoolDT, c_isBoolDL, c_isStrDN, c_isStrDB, c_isStrDI, c_isStrDS, c_isStrDT, c_isStrDL, c_isTupDN, c_isTupDB, c_isTupDI, c_isTupDS, c_isTupDT, c_isTupDL, c_isLstDN, c_isLstDB, c_isLstDI, c_isLstDS, c_isLstDT, c_isLstDL, c_D_isNonN, c_D_isNonB, c_D_isNonI, c_D_isNonS, c_D_isNonT, c_D_isNonL, c_frz1N, c_isFz1N, c_frz1B, c_isFz1B, c_frz1I, c_isFz1I, c_frz1S, c_isFz1S, c_frz1T, c_isFz1T, c_frz1L, c_isFz1L, v_zip, v_zipT, v_enum, v_minI, v_maxI, v_minT, v_maxT, w_CallO, w_AugI, g_Aug, intAt1, intAt2, v_int, v_intB, v_extT, v_extL, okArgs0, okArgs1, okArgs2, w_Idx, k_Idx, v_reverse, v_insert, decide_true, decide_false, Bool.and_self])
local macro_rules | `(tactic| nofun) => `(tactic| simp only [frzs_tups, isFzs_tups, wR_ok, wR_bind, w_C, w_Var, g_Var1, g_Var2, w_Mv, g_Mv1, g_Mv2, w_End, w_ov, w_op, g_Op1, g_Op2, w_oz, g_Oz1, g_Oz2, w_1, w_2, w_Not, w_Isi, w_Isi2, w_Ops0, w_Ops1, w_Tup, w_N, w_Sl, w_noPart, w_aPart, k_Part, w_Chain, isB_bl, cIf_t, cIf_f, cIf_n, w_ChainE, w_If, w_And, w_Or, w_Tru, w_Val, w_BAnd, w_BOr, w_BNot, w_BYes, w_Nil, w_Br, w_Ct, g_nx, g_br, g_ct, g_rt, w_Seq, w_SIf, w_Ret, w_Drop, w_Set, g_Set, g_Tup1, g_Tup2, g_All0, g_All1, isI_int, g_Item, q_Item, w_Q0, w_Q1, w_Lst, w_Par, w_Mut, g_Mu1, g_Mu2, v_append, k_Ext, w_Ext, g_Ex1, g_Ex2, w_Call, w_Args0, w_Args1, w_Args2, g_Ar, k_Call, w_As0, w_As1, w_As2, g_As, putm0, putm1, putm2, w_O0, w_O1, w_O2, q_rt, q_nx, w_fn, slots0, slots1, slots2, aft_nx, aft_ct, aft_br, aft_rt, w_sO0, w_sO1, w_sv, w_sp, g_Sp1, g_Sp2, w_sz, g_Sz1, g_Sz2, w_For, k_For, w_Lc, w_eO0, w_eO1, w_ev, w_ep, w_ez, k_Lc, v_add, v_addL, v_addT, v_sub, v_mul, v_fdiv, v_mod, v_pow, v_neg, v_lt, v_le, v_gt, v_ge, shp_int, shp_bl, shp_non, v_eq, v_ne, v_eqB, g_Ix, v_ixL, v_ixT, g_X, v_idx, v_lenL, v_lenT, v_abs, v_max, v_min, v_tup, v_list, v_listT, v_tuple, v_tupleT, v_slL, v_slT, v_truB, v_truI, v_truT, v_truL, v_truN, v_itL, v_itT, v_r1, v_r2, v_isB, v_isN, v_isntN, List.getElem?_cons_zero, List.getElem?_cons_succ, List.set_cons_zero, List.set_cons_succ, List.length_cons, List.length_nil, List.cons_append, List.nil_append, List.append_nil, List.replicate_succ, List.replicate_zero, D.frz, frzs, D.isFz, isFzs, dwipe, restore, relk, Bool.and_true, Bool.true_and, Bool.and_false, Bool.false_and, Bool.or_true, Bool.true_or, Bool.or_false, Bool.false_or, Bool.not_true, Bool.not_false, and_true, true_and, at_of, ix_of, frzs_ints, isFzs_ints, List.length_map, Int.toNat_natCast, ↓reduceIte, Nat.reduceAdd, Nat.reduceSub, Nat.reduceLT, Nat.reduceLeDiff, Int.reduceLT, Int.reduceLE, Int.reduceEq, Int.reduceAdd, Int.reduceSub, Int.reduceMul, Int.reduceNeg, Int.reduceToNat, Int.reducePow, Int.reduceBNe, Int.reduceBEq, reduceCtorEq, mulOk_l, mulOk_r, fdivOk_s, modOk_p, powOk_s, cast_of, small_le, small_lt, filt_yes, frzs_bls, v_anyB, v_allB, cutL_map, c_isIntDN, c_isIntDB, c_isIntDI, c_isIntDS, c_isIntDT, c_isIntDL, c_isBoolDN, c_isBoolDB, c_isBoolDI, c_isBoolDS, c_isBoolDT, c_isBoolDL, c_isStrDN, c_isStrDB, c_isStrDI, c_isStrDS, c_isStrDT, c_isStrDL, c_isTupDN, c_isTupDB, c_isTupDI, c_isTupDS, c_isTupDT, c_isTupDL, c_isLstDN, c_isLstDB, c_isLstDI, c_isLstDS, c_isLstDT, c_isLstDL, c_D_isNonN, c_D_isNonB, c_D_isNonI, c_D_isNonS, c_D_isNonT, c_D_isNonL, c_frz1N, c_isFz1N, c_frz1B, c_isFz1B, c_frz1I, c_isFz1I, c_frz1S, c_isFz1S, c_frz1T, c_isFz1T, c_frz1L, c_isFz1L, v_zip, v_zipT, v_enum, v_minI, v_maxI, v_minT, v_maxT, w_CallO, w_AugI, g_Aug, intAt1, intAt2, v_int, v_intB, v_extT, v_extL, okArgs0, okArgs1, okArgs2, w_Idx, k_Idx, v_reverse, v_insert, decide_true, decide_false, Bool.and_self, *])
variable {sem : Nat → CE} {s : Nat} {x y : D}
abbrev P2 := Int × Int
def C2 (p : P2) : D := .tup [.int p.1, .int p.2]
def sq6 : List P2 := [(0, 0), (6, 0), (6, 6), (0, 6)]
def ringSets : List (List (List P2)) := [
  [sq6], [[(0, 0), (8, 1), (2, 7)]], [[(0, 0), (8, 0), (8, 3), (3, 3), (3, 8), (0, 8)]],
  [[(0, 0), (9, 0), (9, 9), (0, 9)], [(2, 2), (7, 2), (7, 7), (2, 7)]],
  [sq6, [(0, 4), (2, 2), (3, 5)]],
  [[(0, 0), (4, 0), (4, 4), (0, 4)], [(4, 4), (8, 4), (8, 8), (4, 8)]],
  [[(0, 0), (4, 4), (8, 0), (8, 8), (4, 4), (0, 8)]],
  [sq6, [(1, 1), (3, 1), (3, 3), (1, 3)], [(3, 3), (5, 3), (5, 5), (3, 5)]],
  [[(0, 0), (9, 0), (9, 9), (0, 9)], [(1, 1), (8, 1), (8, 8), (1, 8)], [(3, 3), (6, 3), (4, 6)]],
  [[(0, 0), (3, 0), (3, 2), (0, 2)], [(5, 0), (8, 0), (8, 2), (5, 2)], [(3, 2), (5, 2), (4, 6)]],
  [[(0, 0), (2, 0), (1, 3)], [(3, 1), (5, 0), (4, 3)], [(6, 0), (8, 0), (7, 3)], [(9, 1), (11, 0), (10, 3)], [(12, 0), (14, 0), (13, 3)], [(15, 1), (17, 0), (16, 3)], [(18, 0), (20, 0), (19, 3)], [(21, 1), (23, 0), (22, 3)]]]
def ringsD (rs : List (List P2)) : List D := rs.map fun r => .tup (r.map C2)
theorem gIx_all {xs : List D} {q : Int} {Q : D → Prop} (h0 : 0 ≤ q) (h1 : q < xs.length) (h : ∀ x ∈ xs, Q x) : gIx (atI xs q) Q := by
  obtain ⟨x, e, hm⟩ := at_in (xs := xs) h0 h1
  exact gIx_of e (h x hm)
theorem D_rings [H__law_draw sem] [H__law_rings sem] {n m : Nat} {h : D} {Q : D × List D → Prop} (hh : Hnd m h) (hn : m < 2 ^ 61) (k : ∀ rs h', rs ∈ ringSets → Hnd (m + 1) h' → Q (.lst false (ringsD rs), [h'])) : wR (sem (n + 2) 62 [h]) Q := by
  rw [H__law_rings.h (sem := sem)]
  unfold b__law_rings
  nofun
  refine w_map (fun d => match d with
    | .int i => .tup [.tup [.int (3 * i), .int (i.fmod 2)], .tup [.int (3 * i + 2), .int 0], .tup [.int (3 * i + 1), .int 3]]
    | _ => .non) (fun _ => true) (dwipe _ [3]) rfl (fun x hx => ?_) fun ds e => ?_
  · have hx2 : ∃ i : Nat, x = .int i := by
      obtain ⟨i, hi⟩ := List.getElem?_of_mem hx
      obtain ⟨_, rfl⟩ := rangeL_get hi
      exact ⟨i, by rw [Int.zero_add]⟩
    obtain ⟨i, rfl⟩ := hx2
    nofun
  · simp only [dwipe] at e
    nofun
    refine ⟨by rw [rangeL_len]; unfold sizeLine; omega, ?_⟩
    refine D_draw hh (by omega) (by omega) (by omega) fun q h2 q0 q1 hh => ?_
    nofun
    have fin : ∀ rs, rs ∈ ringSets → Q (.lst false (ringsD rs), [h2]) := fun rs hr => k rs h2 hr hh
    simp only [ringSets, List.forall_mem_cons, ringsD, List.map_cons, List.map_nil, sq6, C2] at fin
    obtain ⟨f1, f2, f3, f4, f5, f6, f7, f8, f9, f10, f11, _⟩ := fin
    refine gIx_all q0 (by exact q1) ?_
    simp only [List.forall_mem_cons]
    refine ⟨?_, ?_, ?_, ?_, ?_, ?_, ?_, ?_, ?_, ?_, ?_, nofun⟩
    · nofun
    · nofun
    · nofun
    · nofun
    · nofun
    · nofun
    · nofun
    · nofun
    · nofun
    · nofun
    refine ⟨by decide +kernel, ?_⟩
    nofun
    exact f11
theorem rings_frz (rs : List (List P2)) : frzs (ringsD rs) = ringsD rs := by
  have e : ringsD rs = (rs.map (List.map C2)).map .tup := by unfold ringsD; rw [List.map_map]; rfl
  rw [e, frzs_tups]
theorem rings_fz (rs : List (List P2)) : isFzs (ringsD rs) = true := by
  have e : ringsD rs = (rs.map (List.map C2)).map .tup := by unfold ringsD; rw [List.map_map]; rfl
  rw [e, isFzs_tups]
theorem c2s_fz (r : List P2) : isFzs (r.map C2) = true := by
  rw [isFzs_eq, List.all_eq_true]
  intro z hz
  obtain ⟨p, _, rfl⟩ := List.mem_map.mp hz
  rfl
structure Aff where
  a : Int
  b : Int
  c : Int
  d : Int
  x : Int
  y : Int
  w : Int
def Aff.on (T : Aff) (p : P2) : D := .tup [numOf (T.a * p.1 + T.b * p.2 + T.x) T.w, numOf (T.c * p.1 + T.d * p.2 + T.y) T.w]
def affWays : List (Int × Int × Int × Int) := [(1, 0, 0, 1), (0, -1, 1, 0), (1, 1, 0, 1), (2, 0, 0, 1), (1, 0, -1, 1), (-1, 0, 0, 1)]
structure Aff.Ok (T : Aff) : Prop where
  way : (T.a, T.b, T.c, T.d) ∈ affWays
  w0 : 1 ≤ T.w
  w1 : T.w ≤ 10
  x0 : -999 ≤ T.x
  x1 : T.x ≤ 999
  y0 : -999 ≤ T.y
  y1 : T.y ≤ 999
def Turned (l l' : List D) : Prop := ∃ at_, at_ < l.length ∧ (l' = l.drop at_ ++ l.take at_ ∨ l' = (l.drop at_ ++ l.take at_).reverse)
theorem Turned.mem {l l' : List D} (h : Turned l l') : (∀ z, z ∈ l' ↔ z ∈ l) ∧ l'.length = l.length := by
  obtain ⟨i, hi, h⟩ := h
  have h1 : ∀ z, z ∈ l.drop i ++ l.take i ↔ z ∈ l := fun z => by
    rw [List.mem_append, Or.comm, ← List.mem_append, List.take_append_drop]
  have h2 : (l.drop i ++ l.take i).length = l.length := by simp; omega
  rcases h with rfl | rfl
  · exact ⟨h1, h2⟩
  · exact ⟨fun z => by rw [List.mem_reverse]; exact h1 z, by rw [List.length_reverse]; exact h2⟩
structure PatchOf (rs : List (List P2)) (T : Aff) (ls : List (List D)) : Prop where
  rings : rs ∈ ringSets
  aff : T.Ok
  len : ls.length = rs.length
  each : ∀ (i : Nat) (r : List P2) (l : List D), rs[i]? = some r → ls[i]? = some l → Turned (r.map T.on) l
theorem rings_small : ∀ rs ∈ ringSets, rs ≠ [] ∧ rs.length ≤ 8 ∧ ∀ r ∈ rs, 3 ≤ r.length ∧ r.length ≤ 6 ∧ ∀ p ∈ r, 0 ≤ p.1 ∧ p.1 ≤ 23 ∧ 0 ≤ p.2 ∧ p.2 ≤ 23 := by decide +kernel
theorem aff_small {T : Aff} (h : T.Ok) : -2 ≤ T.a ∧ T.a ≤ 2 ∧ -2 ≤ T.b ∧ T.b ≤ 2 ∧ -2 ≤ T.c ∧ T.c ≤ 2 ∧ -2 ≤ T.d ∧ T.d ≤ 2 := by
  have : ∀ q ∈ affWays, -2 ≤ q.1 ∧ q.1 ≤ 2 ∧ -2 ≤ q.2.1 ∧ q.2.1 ≤ 2 ∧ -2 ≤ q.2.2.1 ∧ q.2.2.1 ≤ 2 ∧ -2 ≤ q.2.2.2 ∧ q.2.2.2 ≤ 2 := by decide +kernel
  exact this _ h.way
theorem lin_small {a b p q x : Int} (a0 : -2 ≤ a) (a1 : a ≤ 2) (b0 : -2 ≤ b) (b1 : b ≤ 2) (p0 : 0 ≤ p) (p1 : p ≤ 23) (q0 : 0 ≤ q) (q1 : q ≤ 23) (x0 : -999 ≤ x) (x1 : x ≤ 999) : (a * p + b * q + x).natAbs < 2 ^ 12 := by
  have h1 : -(2 * 23) ≤ a * p ∧ a * p ≤ 2 * 23 := by
    rcases Int.le_total 0 a with h | h
    · have := Int.mul_le_mul a1 p1 p0 (by omega); have := Int.mul_nonneg h p0; omega
    · have := Int.mul_le_mul (a := -a) (b := p) (c := 2) (d := 23) (by omega) p1 p0 (by omega); have := Int.mul_nonneg (a := -a) (by omega) p0; rw [Int.neg_mul] at *; omega
  have h2 : -(2 * 23) ≤ b * q ∧ b * q ≤ 2 * 23 := by
    rcases Int.le_total 0 b with h | h
    · have := Int.mul_le_mul b1 q1 q0 (by omega); have := Int.mul_nonneg h q0; omega
    · have := Int.mul_le_mul (a := -b) (b := q) (c := 2) (d := 23) (by omega) q1 q0 (by omega); have := Int.mul_nonneg (a := -b) (by omega) q0; rw [Int.neg_mul] at *; omega
  omega
theorem aff_cor {T : Aff} (h : T.Ok) {rs : List (List P2)} (hr : rs ∈ ringSets) {r : List P2} (h1 : r ∈ rs) {p : P2} (hp : p ∈ r) : Cor 12 (T.on p) := by
  obtain ⟨a0, a1, b0, b1, c0, c1, d0, d1⟩ := aff_small h
  obtain ⟨_, _, hs⟩ := rings_small rs hr
  obtain ⟨_, _, hs⟩ := hs r h1
  obtain ⟨p0, p1, q0, q1⟩ := hs p hp
  have := h.w0; have := h.w1
  exact ⟨_, _, rfl, numOf_num (by omega) (lin_small a0 a1 b0 b1 p0 p1 q0 q1 h.x0 h.x1) (by omega), numOf_num (by omega) (lin_small c0 c1 d0 d1 p0 p1 q0 q1 h.y0 h.y1) (by omega)⟩
theorem PatchOf.ok {rs : List (List P2)} {T : Aff} {ls : List (List D)} (h : PatchOf rs T ls) : (Shp.mk 2 ls).Ok 34 := by
  obtain ⟨e1, e2, e3⟩ := rings_small rs h.rings
  have key : ∀ l ∈ ls, ∃ r ∈ rs, Turned (r.map T.on) l := fun l hl => by
    obtain ⟨i, hi⟩ := List.getElem?_of_mem hl
    have hi2 : i < rs.length := by
      rcases Nat.lt_or_ge i ls.length with k | k
      · rw [← h.len]; exact k
      · rw [List.getElem?_eq_none k] at hi; cases hi
    have hr : rs[i]? = some rs[i] := by simp [hi2]
    exact ⟨rs[i], List.getElem_mem hi2, h.each i _ l hr hi⟩
  refine ⟨nofun, fun e => ?_, by show ls.length ≤ 100; rw [h.len]; omega, fun l hl => ?_, fun l hl => ?_, fun l hl c hc => ?_⟩
  · have h2 := h.len
    dsimp only at e
    rw [e] at h2
    exact e1 (List.length_eq_zero_iff.mp h2.symm)
  · obtain ⟨r, hr, ht⟩ := key l hl
    have h3 := (e3 r hr).1
    have h4 := ht.mem.2
    rw [List.length_map] at h4
    intro e
    subst e
    simp at h4
    omega
  · obtain ⟨r, hr, ht⟩ := key l hl
    have h3 := (e3 r hr).2.1
    have h4 := ht.mem.2
    rw [List.length_map] at h4
    omega
  · obtain ⟨r, hr, ht⟩ := key l hl
    obtain ⟨p, hp, rfl⟩ := List.mem_map.mp ((ht.mem.1 c).mp hc)
    exact (aff_cor h.aff h.rings hr hp).mono (by omega)
theorem D_patch [H__law_draw sem] [H__law_both sem] [H__law_part sem] [H__law_rings sem] [H__law_patch sem] {n m : Nat} {h : D} {sp : Int} {Q : D × List D → Prop} (hh : Hnd m h) (hn : m < 2 ^ 60) (s0 : 3 ≤ sp) (s1 : sp ≤ 999)
    (k : ∀ rs T ls h', PatchOf rs T ls → Hnd (m + 21) h' → Q (.tup [.str ("patch" : PySem.Str), .tup (ls.map .tup)], [h'])) : wR (sem (n + 3) 63 [h, .int sp]) Q := by
  rw [H__law_patch.h (sem := sem)]
  unfold b__law_patch
  nofun
  refine D_draw hh (by omega) (by omega) (by omega) fun q1 h1 a1 b1 hh => ?_
  nofun
  refine gIx_all a1 (by exact b1) ?_
  have ways : ∀ (R : D → Prop), (∀ a b c d : Int, (a, b, c, d) ∈ affWays → R (.tup [.int a, .int b, .int c, .int d])) → ∀ x ∈ [D.tup [D.int 1, D.int 0, D.int 0, D.int 1], D.tup [D.int 0, D.int (-1), D.int 1, D.int 0], D.tup [D.int 1, D.int 1, D.int 0, D.int 1], D.tup [D.int 2, D.int 0, D.int 0, D.int 1], D.tup [D.int 1, D.int 0, D.int (-1), D.int 1], D.tup [D.int (-1), D.int 0, D.int 0, D.int 1]], R x := by
    intro R hR
    simp only [List.forall_mem_cons]
    exact ⟨hR _ _ _ _ (by decide), hR _ _ _ _ (by decide), hR _ _ _ _ (by decide), hR _ _ _ _ (by decide), hR _ _ _ _ (by decide), hR _ _ _ _ (by decide), nofun⟩
  refine ways _ fun a b c d habcd => ?_
  nofun
  refine D_draw hh (by omega) (by omega) (by omega) fun q2 h2 a2 b2 hh => ?_
  nofun
  refine gIx_all a2 (by exact b2) ?_
  have belows : ∀ (R : D → Prop), (∀ w : Int, 1 ≤ w → w ≤ 10 → R (.int w)) → ∀ x ∈ [D.int 1, D.int 1, D.int 1, D.int 2, D.int 3, D.int 10], R x := by
    intro R hR
    simp only [List.forall_mem_cons]
    exact ⟨hR _ (by omega) (by omega), hR _ (by omega) (by omega), hR _ (by omega) (by omega), hR _ (by omega) (by omega), hR _ (by omega) (by omega), hR _ (by omega) (by omega), nofun⟩
  refine belows _ fun w w0 w1 => ?_
  nofun
  refine D_draw hh (by omega) (by omega) (by omega) fun q3 h3 a3 b3 hh => ?_
  nofun
  refine D_draw hh (by omega) (by omega) (by omega) fun q4 h4 a4 b4 hh => ?_
  nofun
  refine D_rings hh (by omega) fun rs h5 hrs hh => ?_
  have T_ok : Aff.Ok ⟨a, b, c, d, q3 - sp, q4 - sp, w⟩ := ⟨habcd, w0, w1, by show -999 ≤ q3 - sp; omega, by show q3 - sp ≤ 999; omega, by show -999 ≤ q4 - sp; omega, by show q4 - sp ≤ 999; omega⟩
  have e1 := rings_frz rs; have e2 := rings_fz rs
  obtain ⟨k1, k2, k3⟩ := rings_small rs hrs
  have hk : rs.length < 10 := by omega
  obtain ⟨A0, A1, B0, B1, C0, C1, D0, D1⟩ := aff_small T_ok
  dsimp only at A0 A1 B0 B1 C0 C1 D0 D1
  nofun
  refine w_loop (fun i ds => ∃ hd ls s2 s11 s12 s13 s14 s15, ds = [.own hd, .lk (.int sp), .own s2, .own (.int a), .own (.int b), .own (.int c), .own (.int d), .own (.int w), .own (.int (q3 - sp)), .own (.int (q4 - sp)), .own (.lst true (ls.map .tup)), s11, s12, s13, s14, s15] ∧ Hnd (m + 5 + 2 * i) hd ∧ ls.length = i ∧
    ∀ (j : Nat) (r : List P2) (l : List D), rs[j]? = some r → ls[j]? = some l → Turned (r.map (Aff.on ⟨a, b, c, d, q3 - sp, q4 - sp, w⟩)) l) (j := 0) ⟨_, [], _, _, _, _, _, _, rfl, hh, rfl, fun j r l _ hl => by simp at hl⟩ (fun i x ds hx hI => ?_) (fun ds hI => ?_)
  · obtain ⟨hd, ls, s2, s11, s12, s13, s14, s15, rfl, hh, hl, hE⟩ := hI
    rw [Nat.zero_add] at *
    unfold ringsD at hx
    rw [List.getElem?_map] at hx
    obtain ⟨r, hr, rfl⟩ := Option.map_eq_some_iff.mp hx
    have hrm := List.mem_of_getElem? hr
    obtain ⟨r1, r2, r3⟩ := k3 r hrm
    have f1 := c2s_fz r; have f2 := frzs_of f1
    have hi : i < rs.length := by
      rcases Nat.lt_or_ge i rs.length with k | k
      · exact k
      · rw [List.getElem?_eq_none k] at hr; cases hr
    have hon : ∀ z ∈ r.map (Aff.on ⟨a, b, c, d, q3 - sp, q4 - sp, w⟩), Cor 12 z := fun z hz => by
      obtain ⟨p, hp, rfl⟩ := List.mem_map.mp hz
      exact aff_cor T_ok hrs hrm hp
    have g1 := cors_fz hon; have g2 := frzs_of g1
    nofun
    refine w_map (fun z => match z with | .tup [.int p, .int q] => Aff.on ⟨a, b, c, d, q3 - sp, q4 - sp, w⟩ (p, q) | _ => .non) (fun _ => true) _ rfl (fun x hx => ?_) fun ds e => ?_
    · obtain ⟨p, hp, rfl⟩ := List.mem_map.mp hx
      obtain ⟨p0, p1, q0, q1⟩ := r3 p hp
      unfold C2
      nofun
      have m1 : ∀ x y : Int, -2 ≤ x → x ≤ 2 → mulOk x y = true := fun x y h0 h1 => mulOk_l (by omega) (by omega)
      have n1 := m1 a p.1 A0 A1; have n2 := m1 b p.2 B0 B1; have n3 := m1 c p.1 C0 C1; have n4 := m1 d p.2 D0 D1
      have b1 := F_part (sem := sem) n (t := a * p.1 + b * p.2 + (q3 - sp)) (b := w) (s := 12) (by omega) (lin_small A0 A1 B0 B1 p0 p1 q0 q1 (by omega) (by omega)) (by omega) (by omega)
      have b2 := F_part (sem := sem) n (t := c * p.1 + d * p.2 + (q4 - sp)) (b := w) (s := 12) (by omega) (lin_small C0 C1 D0 D1 p0 p1 q0 q1 (by omega) (by omega)) (by omega) (by omega)
      have c1 := aff_cor T_ok hrs hrm hp
      obtain ⟨u, v, ec, hu, hv⟩ := c1
      unfold Aff.on at ec
      simp only [D.tup.injEq, List.cons.injEq, and_true] at ec
      obtain ⟨rfl, rfl⟩ := ec
      have d1 := hu.frz; have d2 := hu.fz; have d3 := hv.frz; have d4 := hv.fz
      nofun
      rfl
    · have em : ((List.filter (fun _ => true) (r.map C2)).map fun z => match z with | .tup [.int p, .int q] => Aff.on ⟨a, b, c, d, q3 - sp, q4 - sp, w⟩ (p, q) | _ => D.non) = r.map (Aff.on ⟨a, b, c, d, q3 - sp, q4 - sp, w⟩) := by
        rw [filt_yes, List.map_map]
        rfl
      rw [em]
      simp only [dwipe] at e
      have lG : (r.map (Aff.on ⟨a, b, c, d, q3 - sp, q4 - sp, w⟩)).length = r.length := List.length_map ..
      generalize hG : r.map (Aff.on ⟨a, b, c, d, q3 - sp, q4 - sp, w⟩) = G at *
      clear em
      have lG1 : 3 ≤ G.length := by omega
      have lG2 : G.length ≤ 6 := by omega
      clear lG
      nofun
      refine ⟨by unfold sizeLine; omega, ?_⟩
      refine D_draw hh (by omega) (by omega) (by omega) fun q5 h6 a5 b5 hh => ?_
      obtain ⟨t, rfl⟩ := Int.eq_ofNat_of_zero_le a5
      have u1 := cutL_from (xs := G) (n := t)
      have u2 := cutL_upto (xs := G) (n := t)
      have u3 : isFzs (G.drop t) = true := cors_fz fun z hz => hon z (List.mem_of_mem_drop hz)
      have u4 : isFzs (G.take t) = true := cors_fz fun z hz => hon z (List.mem_of_mem_take hz)
      have u5 := frzs_of u3; have u6 := frzs_of u4
      have u7 : (G.drop t).length + (G.take t).length ≤ 6 := by simp; omega
      have u8 : isFzs (G.drop t ++ G.take t) = true := by rw [isFzs_app, u3, u4]; rfl
      have u9 := frzs_of u8
      have v8 : isFzs (G.drop t ++ G.take t).reverse = true := by rw [isFzs_eq, List.all_reverse, ← isFzs_eq]; exact u8
      have v9 := frzs_of v8
      have w8 : decide ((G.drop t).length + (G.take t).length ≤ sizeLine) = true := decide_eq_true (by unfold sizeLine; omega)
      have fin : ∀ l, Turned G l → ∀ (j : Nat) (r : List P2) (l2 : List D), rs[j]? = some r → (ls ++ [l])[j]? = some l2 → Turned (r.map (Aff.on ⟨a, b, c, d, q3 - sp, q4 - sp, w⟩)) l2 := by
        intro l hl2 j r2 l2 hj hj2
        rcases Nat.lt_trichotomy j ls.length with hlt | rfl | hgt
        · rw [List.getElem?_append_left hlt] at hj2
          exact hE j r2 l2 hj hj2
        · rw [List.getElem?_append_right (Nat.le_refl _), Nat.sub_self] at hj2
          cases hj2
          rw [hl, hr] at hj
          cases hj
          rw [hG]
          exact hl2
        · rw [List.getElem?_append_right (by omega), List.getElem?_eq_none (by simp; omega)] at hj2
          cases hj2
      have hls : ls.length < 10 := by omega
      have hlS : ls.length + 1 = i + 1 := by omega
      clear hl
      clear hG
      nofun
      refine D_draw hh (by omega) (by omega) (by omega) fun q6 h7 a6 b6 hh => ?_
      nofun
      refine cIf_split (fun hq => ?_) fun hq => ?_
      · nofun
        exact ⟨by unfold sizeLine; omega, _, ls ++ [(G.drop t ++ G.take t).reverse], _, _, _, _, _, _, by rw [List.map_append]; rfl, hh.mono (by omega), by simp; omega, fin _ ⟨t, by omega, .inr rfl⟩⟩
      · nofun
        exact ⟨by unfold sizeLine; omega, _, ls ++ [G.drop t ++ G.take t], _, _, _, _, _, _, by rw [List.map_append]; rfl, hh.mono (by omega), by simp; omega, fin _ ⟨t, by omega, .inl rfl⟩⟩
  · obtain ⟨hd, ls, s2, s11, s12, s13, s14, s15, rfl, hh, hl, hE⟩ := hI
    rw [Nat.zero_add] at hl hh
    have hlr : ls.length = rs.length := by rw [hl]; unfold ringsD; rw [List.length_map]
    have hh := hh.mono (show m + 5 + 2 * (ringsD rs).length ≤ m + 21 by rw [← hl]; omega)
    have hls : ls.length ≤ 8 := by omega
    have fin := k rs _ ls hd ⟨hrs, T_ok, hlr, hE⟩ hh
    clear hl hlr
    nofun
end Vd
end
section
namespace Vd
open PySem L2
local macro_rules | `(tactic| and_intros) => `(tactic| simp only [kd_pp, kd_rp, kd_tp, kd_pt, kd_rt, kd_tt, kd_pr, kd_rr, kd_tr, frzs_tups, isFzs_tups, wR_ok, wR_bind, w_C, w_Var, g_Var1, g_Var2, w_Mv, g_Mv1, g_Mv2, w_End, w_ov, w_op, g_Op1, g_Op2, w_oz, g_Oz1, g_Oz2, w_1, w_2, w_Not, w_Isi, w_Isi2, w_Ops0, w_Ops1, w_Tup, w_N, w_Sl, w_noPart, w_aPart, k_Part, w_Chain, isB_bl, cIf_t, cIf_f, cIf_n, w_ChainE, w_If, w_And, w_Or, w_Tru, w_Val, w_BAnd, w_BOr, w_BNot, w_BYes, w_Nil, w_Br, w_Ct, g_nx, g_br, g_ct, g_rt, w_Seq, w_SIf, w_Ret, w_Drop, w_Set, g_Set, g_Tup1, g_Tup2, g_All0, g_All1, isI_int, g_Item, q_Item, w_Q0, w_Q1, w_Lst, w_Par, w_Mut, g_Mu1, g_Mu2, v_append, k_Ext, w_Ext, g_Ex1, g_Ex2, w_Call, w_Args0, w_Args1, w_Args2, g_Ar, k_Call, w_As0, w_As1, w_As2, g_As, putm0, putm1, putm2, w_O0, w_O1, w_O2, q_rt, q_nx, w_fn, slots0, slots1, slots2, aft_nx, aft_ct, aft_br, aft_rt, w_sO0, w_sO1, w_sv, w_sp, g_Sp1, g_Sp2, w_sz, g_Sz1, g_Sz2, w_For, k_For, w_Lc, w_eO0, w_eO1, w_ev, w_ep, w_ez, k_Lc, v_add, v_addL, v_addT, v_sub, v_mul, v_fdiv, v_mod, v_pow, v_neg, v_lt, v_le, v_gt, v_ge, shp_int, shp_bl, shp_non, v_eq, v_ne, v_eqB, g_Ix, v_ixL, v_ixT, g_X, v_idx, v_lenL, v_lenT, v_abs, v_max, v_min, v_tup, v_list, v_listT, v_tuple, v_tupleT, v_slL, v_slT, v_truB, v_truI, v_truT, v_truL, v_truN, v_itL, v_itT, v_r1, v_r2, v_isB, v_isN, v_isntN, List.getElem?_cons_zero, List.getElem?_cons_succ, List.set_cons_zero, List.set_cons_succ, List.length_cons, List.length_nil, List.cons_append, List.nil_append, List.append_nil, List.replicate_succ, List.replicate_zero, D.frz, frzs, D.isFz, isFzs, dwipe, restore, relk, Bool.and_true, Bool.true_and, Bool.and_false, Bool.false_and, Bool.or_true, Bool.true_or, Bool.or_false, Bool.false_or, Bool.not_true, Bool.not_false, and_true, true_and, at_of, ix_of, frzs_ints, isFzs_ints, List.length_map, Int.toNat_natCast, ↓reduceIte, Nat.reduceAdd, Nat.reduceSub, Nat.reduceLT, Nat.reduceLeDiff, Int.reduceLT, Int.reduceLE, Int.reduceEq, Int.reduceAdd, Int.reduceSub, Int.reduceMul, Int.reduceNeg, Int.reduceToNat, Int.reducePow, Int.reduceBNe, Int.reduceBEq, reduceCtorEq, mulOk_l, mulOk_r, fdivOk_s, modOk_p, powOk_s, cast_of, small_le, small_lt, filt_yes, frzs_bls, v_anyB, v_allB, cutL_map, c_isIntDN, c_isIntDB, c_isIntDI, c_isIntDS, c_isIntDT, c_isIntDL, c_isBoolDN, c_isBoolDB, c_isBoolDI, c_isBoolDS, c_isBoolDT, c_isBoolDL, c_isStrDN, c_isStrDB, c_isStrDI, c_isStrDS, c_isStrDT, c_isStrDL, c_isTupDN, c_isTupDB, c_isTupDI, c_isTupDS, c_isTupDT, c_isTupDL, c_isLstDN, c_isLstDB, c_isLstDI, c_isLstDS, c_isLstDT, c_isLstDL, c_D_isNonN, c_D_isNonB, c_D_isNonI, c_D_isNonS, c_D_isNonT, c_D_isNonL, c_frz1N, c_isFz1N, c_frz1B, c_isFz1B, c_frz1I, c_isFz1I, c_frz1S, c_isFz1S, c_frz1T, c_isFz1T, c_frz1L, c_isFz1L, v_zip, v_zipT, v_enum, v_minI, v_maxI, v_minT, v_maxT, w_CallO, w_AugI, g_Aug, intAt1, intAt2, v_int, v_intB, v_extT, v_extL, okArgs0, okArgs1, okArgs2, w_Idx, k_Idx, v_reverse, v_insert, decide_true, decide_false, Bool.and_self])
local macro_rules | `(tactic| nofun) => `(tactic| simp only [kd_pp, kd_rp, kd_tp, kd_pt, kd_rt, kd_tt, kd_pr, kd_rr, kd_tr, frzs_tups, isFzs_tups, wR_ok, wR_bind, w_C, w_Var, g_Var1, g_Var2, w_Mv, g_Mv1, g_Mv2, w_End, w_ov, w_op, g_Op1, g_Op2, w_oz, g_Oz1, g_Oz2, w_1, w_2, w_Not, w_Isi, w_Isi2, w_Ops0, w_Ops1, w_Tup, w_N, w_Sl, w_noPart, w_aPart, k_Part, w_Chain, isB_bl, cIf_t, cIf_f, cIf_n, w_ChainE, w_If, w_And, w_Or, w_Tru, w_Val, w_BAnd, w_BOr, w_BNot, w_BYes, w_Nil, w_Br, w_Ct, g_nx, g_br, g_ct, g_rt, w_Seq, w_SIf, w_Ret, w_Drop, w_Set, g_Set, g_Tup1, g_Tup2, g_All0, g_All1, isI_int, g_Item, q_Item, w_Q0, w_Q1, w_Lst, w_Par, w_Mut, g_Mu1, g_Mu2, v_append, k_Ext, w_Ext, g_Ex1, g_Ex2, w_Call, w_Args0, w_Args1, w_Args2, g_Ar, k_Call, w_As0, w_As1, w_As2, g_As, putm0, putm1, putm2, w_O0, w_O1, w_O2, q_rt, q_nx, w_fn, slots0, slots1, slots2, aft_nx, aft_ct, aft_br, aft_rt, w_sO0, w_sO1, w_sv, w_sp, g_Sp1, g_Sp2, w_sz, g_Sz1, g_Sz2, w_For, k_For, w_Lc, w_eO0, w_eO1, w_ev, w_ep, w_ez, k_Lc, v_add, v_addL, v_addT, v_sub, v_mul, v_fdiv, v_mod, v_pow, v_neg, v_lt, v_le, v_gt, v_ge, shp_int, shp_bl, shp_non, v_eq, v_ne, v_eqB, g_Ix, v_ixL, v_ixT, g_X, v_idx, v_lenL, v_lenT, v_abs, v_max, v_min, v_tup, v_list, v_listT, v_tuple, v_tupleT, v_slL, v_slT, v_truB, v_truI, v_truT, v_truL, v_truN, v_itL, v_itT, v_r1, v_r2, v_isB, v_isN, v_isntN, List.getElem?_cons_zero, List.getElem?_cons_succ, List.set_cons_zero, List.set_cons_succ, List.length_cons, List.length_nil, List.cons_append, List.nil_append, List.append_nil, List.replicate_succ, List.replicate_zero, D.frz, frzs, D.isFz, isFzs, dwipe, restore, relk, Bool.and_true, Bool.true_and, Bool.and_false, Bool.false_and, Bool.or_true, Bool.true_or, Bool.or_false, Bool.false_or, Bool.not_true, Bool.not_false, and_true, true_and, at_of, ix_of, frzs_ints, isFzs_ints, List.length_map, Int.toNat_natCast, ↓reduceIte, Nat.reduceAdd, Nat.reduceSub, Nat.reduceLT, Nat.reduceLeDiff, Int.reduceLT, Int.reduceLE, Int.reduceEq, Int.reduceAdd, Int.reduceSub, Int.reduceMul, Int.reduceNeg, Int.reduceToNat, Int.reducePow, Int.reduceBNe, Int.reduceBEq, reduceCtorEq, mulOk_l, mulOk_r, fdivOk_s, modOk_p, powOk_s, cast_of, small_le, small_lt, filt_yes, frzs_bls, v_anyB, v_allB, cutL_map, c_isIntDN, c_isIntDB, c_isIntDI, c_isIntDS, c_isIntDT, c_isIntDL, c_isBoolDN, c_isBoolDB, c_isBoolDI, c_isBoolDS, c_isBoolDT, c_isBoolDL, c_isStrDN, c_isStrDB, c_isStrDI, c_isStrDS, c_isStrDT, c_isStrDL, c_isTupDN, c_isTupDB, c_isTupDI, c_isTupDS, c_isTupDT, c_isTupDL, c_isLstDN, c_isLstDB, c_isLstDI, c_isLstDS, c_isLstDT, c_isLstDL, c_D_isNonN, c_D_isNonB, c_D_isNonI, c_D_isNonS, c_D_isNonT, c_D_isNonL, c_frz1N, c_isFz1N, c_frz1B, c_isFz1B, c_frz1I, c_isFz1I, c_frz1S, c_isFz1S, c_frz1T, c_isFz1T, c_frz1L, c_isFz1L, v_zip, v_zipT, v_enum, v_minI, v_maxI, v_minT, v_maxT, w_CallO, w_AugI, g_Aug, intAt1, intAt2, v_int, v_intB, v_extT, v_extL, okArgs0, okArgs1, okArgs2, w_Idx, k_Idx, v_reverse, v_insert, decide_true, decide_false, Bool.and_self, *])
def b__law_less (C : CE) : SS :=
  sSeq (sSet (gTup' [gSet 2, gSet 3]) (rCall C 42 [.vw (ov (rVar 0))])) (sSeq (sSet (gTup' [gSet 4, gSet 5]) (rCall C 42 [.vw (ov (rVar 1))])) (sRet (r2 ltD (ov (r2 mulD (op 2) (op 5))) (ov (r2 mulD (op 4) (op 3))))))
class H__law_less (sem : Nat → CE) : Prop where
  h : ∀ (n : Nat) (args : List D), sem (n + 1) 65 args = fnRun 6 [false, false] (b__law_less (sem n)) args
def b__law_corners (C : CE) : SS :=
  sSeq (sIf (bVal (r2 eqD (ov (r2 itemD (oz 0) (ov (rC (.int 0))))) (ov (rC (.str ("points" : PySem.Str)))))) (sRet (rN listD' [ov (r2 itemD (oz 0) (ov (rC (.int 1))))])) (sNil)) (sSeq (sSet (gSet 1) (rLst [])) (sSeq (sFor [.v (r2 itemD (oz 0) (ov (rC (.int 1))))] itemsD (gSet 2) (sDrop (rExt 1 (oz 2)))) (sRet (rMv 1))))
class H__law_corners (sem : Nat → CE) : Prop where
  h : ∀ (n : Nat) (args : List D), sem (n + 1) 67 args = fnRun 3 [false] (b__law_corners (sem n)) args

variable {sem : Nat → CE} {s : Nat} {x y : D}
theorem F_less [H__law_split sem] [H__law_less sem] (n : Nat) (hx : Num s x) (hy : Num s y) (h0 : 0 < s) (hs : s ≤ 8990) : sem (n + 2) 65 [x, y] = .ok (.bl (decide (ltN x y)), []) := by
  apply wR_get
  rw [H__law_less.h (sem := sem)]
  unfold b__law_less
  have a1 := F_split (sem := sem) n hx; have a2 := F_split (sem := sem) n hy
  have f1 := hx.fz; have f2 := hy.fz; have f3 := hx.frz; have f4 := hy.frz
  have m1 := mul_ok hx.top (hy.bel h0) hs; have m2 := mul_ok hy.top (hx.bel h0) hs
  nofun
  rfl
theorem F_corners [H__law_corners sem] (n : Nat) {S : Shp} (h : S.Ok s) : sem (n + 1) 67 [S.d] = .ok (.lst true S.ls.flatten, []) := by
  apply wR_get
  rw [H__law_corners.h (sem := sem)]
  unfold b__law_corners
  have hfz := cors_fz h.all
  have hfr := frzs_of hfz
  have hlen := h.len
  have hall := h.all
  rcases S with ⟨k, ls⟩
  dsimp only at hfz hfr hlen hall
  have fin : ∀ (kd : PySem.Str) (Q : D × List D → Prop), eqD (.str kd) (.str ("points" : PySem.Str)) = .ok (.bl false) → Q (.lst true ls.flatten, []) →
      wR (fnRun 3 [false] (b__law_corners (sem n)) [.tup [.str kd, .tup (ls.map .tup)]]) Q := by
    intro kd Q hkd hQ
    unfold b__law_corners
    nofun
    refine w_loop (fun i ds => ∃ s2, ds = [.lk (.tup [.str kd, .tup (ls.map .tup)]), .own (.lst true (ls.take i).flatten), s2]) (j := 0) ⟨_, rfl⟩ (fun i x ds hx2 hI => ?_) (fun ds hI => ?_)
    · obtain ⟨s2, rfl⟩ := hI
      rw [Nat.zero_add] at *
      rw [List.getElem?_map] at hx2
      obtain ⟨l, hl, rfl⟩ := Option.map_eq_some_iff.mp hx2
      have e : (ls.take (i + 1)).flatten = (ls.take i).flatten ++ l := by
        rw [List.take_add_one, hl, List.flatten_append]; simp
      have l1 : (ls.take i).flatten.length + l.length ≤ ls.flatten.length := by
        have e2 : ls.flatten = (ls.take (i + 1)).flatten ++ (ls.drop (i + 1)).flatten := by rw [← List.flatten_append, List.take_append_drop]
        rw [e2, e, List.length_append, List.length_append]; omega
      nofun
      exact ⟨by unfold sizeLine; omega, .own (.tup l), rfl⟩
    · obtain ⟨s2, rfl⟩ := hI
      rw [Nat.zero_add, List.length_map, List.take_length]
      nofun
  match k with
  | 0 =>
    obtain ⟨l, rfl⟩ := List.length_eq_one_iff.mp (h.one rfl)
    unfold Shp.d
    nofun
  | 1 => exact fin ("rows" : PySem.Str) _ kd_rp rfl
  | k + 2 => exact fin ("patch" : PySem.Str) _ kd_tp rfl
end Vd
end
section
namespace Vd
open PySem L2
section
variable {K : PySem.W.Frag} {X : Cx} {P : List Nat}
end
end Vd
end
section
namespace Vd
open PySem L2
section
variable {K : PySem.W.Frag} {X : Cx} {P : List Nat}
end
end Vd
end
section
namespace Vd
open PySem L2
end Vd
end
section
namespace HT
open PySem PySem.Spec PyProof.Rows
section
variable {prog : Program} {w : World} {A : Around} {E : Value → Shared → Prop} {s : Shared}
end
end HT
namespace L2
open PySem PySem.Spec PyProof.Rows
section
variable {X : Cx}
end
end L2
namespace Vd
open PySem L2
section
variable {K : PySem.W.Frag} {X : Cx} {P : List Nat}
end
end Vd
end
section
namespace Vd
open PySem L2
section
variable {K : PySem.W.Frag} {X : Cx} {P : List Nat}
def repD (k : Nat) (xs : List D) : List D := (List.replicate k xs).flatten
theorem Reps.rep {Sh : AS} {H : Hp} {vs : List V} {ds : List D} (r : Reps K Sh H vs ds emp) (f : isFzs ds = true) : ∀ k : Nat, Reps K Sh H (List.replicate k vs).flatten (repD k ds) emp ∧ isFzs (repD k ds) = true
  | 0 => ⟨.nil, rfl⟩
  | k + 1 => by
    obtain ⟨a, b⟩ := Reps.rep r f k
    unfold repD at *
    rw [List.replicate_succ, List.replicate_succ, List.flatten_cons, List.flatten_cons]
    exact ⟨r.cat a f b, by rw [isFzs_app, f, b]; rfl⟩
end
end Vd
end
section
namespace Vd
open PySem L2
section
variable {K : PySem.W.Frag} {X : Cx} {P : List Nat}
end
end Vd
end
section
namespace Vd
open PySem L2
section
variable {K : PySem.W.Frag} {X : Cx} {P : List Nat}
end
end Vd
end
section
namespace Vd
open PySem L2 PySem.W PyProof.Rows
mutual
def nmK : NestedKey → Bool
  | .none => false
  | .text _ => false
  | .num _ => true
  | .tup ks => nmKs ks
def nmKs : List NestedKey → Bool
  | [] => true
  | k :: ks => nmK k && nmKs ks
end
section
variable {P : Program} {w : World}
structure TKey (h : Heap) (b : Addr) (k : NestedKey) : Prop where
  it : NestedIs h k (.ref b)
  dp : k.depth ≤ 8
  nm : nmK k = true
theorem TKey.mv {h h' : Heap} {b : Addr} {k : NestedKey} (x : TKey h b k) (q : ∀ a o vs n, h.get? a = some o → o.data = .seq vs n → h'.get? a = some o) : TKey h' b k := ⟨.at q _ _ x.it, x.dp, x.nm⟩
theorem TKey.kp {h h' : Heap} {b : Addr} {k : NestedKey} (x : TKey h b k) (q : ∀ a o, h.get? a = some o → h'.get? a = some o) : TKey h' b k := x.mv fun a o _ _ e _ => q a o e
theorem TKey.but {h h' : Heap} {a b : Addr} {k : NestedKey} {o : Obj} {es : Array (Int × Value)} {ep : Nat} {t : SetTable} (x : TKey h b k) (ho : h.get? a = some o) (hd : o.data = .set es ep t) (hs : Heap.SameBut a h h') : TKey h' b k := x.mv fun c oc vs n e d => by
  refine (hs.2 c fun z => ?_).trans e
  subst z
  rw [ho] at e
  cases e
  rw [hd] at d
  cases d
end
end Vd
end
section
namespace Vd
open PySem L2 PySem.W PyProof.Rows
abbrev NL := List (Addr × NestedKey)
def rws (w : World) (L : NL) : List (Int × Value) := L.map fun p => (p.2.hash w, Value.ref p.1)
def hss (w : World) (L : NL) : List Int := L.map fun p => p.2.hash w
structure NSet (w : World) (h : Heap) (a : Addr) (L : NL) (es : Array (Int × Value)) (ep : Nat) (t : SetTable) : Prop where
  ob : ∃ o, h.get? a = some o ∧ o.ExactSet ∧ o.data = .set es ep t
  en : es.toList = rws w L
  tab : TabOk t (hss w L)
  nd : (L.map (·.2)).Nodup
  key : ∀ p ∈ L, TKey h p.1 p.2
  pl : t.plain = true
  ld : w.params.followText "set-order" = true ∨ t.led = true
  rm : L.length * 5 < t.mask * 3
  fw : L.length < 64
section
variable {P : Program} {w : World} {A : Around} {E : Value → Shared → Prop} {s : Shared} {a : Addr} {L : NL} {es : Array (Int × Value)} {ep : Nat} {t : SetTable}
end
end Vd
end
section
namespace Vd
open PySem L2 PySem.W PyProof.Rows
structure Had (ks : NL) (i : Nat) (L : NL) : Prop where
  sub : ∀ p ∈ L, p ∈ ks.take i
  all : ∀ p ∈ ks.take i, p.2 ∈ L.map (·.2)
  len : L.length ≤ i
theorem Had.next {ks L L' : NL} {i : Nat} {x : Addr × NestedKey} (g : Had ks i L) (h : ks[i]? = some x) (c1 : x.2 ∈ L.map (·.2) → L' = L) (c2 : x.2 ∉ L.map (·.2) → L'.Perm ((x.1, x.2) :: L)) : Had ks (i + 1) L' := by
  have tk : ks.take (i + 1) = ks.take i ++ [x] := by rw [List.take_add_one, h]; rfl
  rcases Classical.em (x.2 ∈ L.map (·.2)) with c | c
  · cases c1 c
    refine ⟨fun p hp => ?_, fun p hp => ?_, Nat.le_succ_of_le g.len⟩
    · rw [tk]; exact List.mem_append_left _ (g.sub p hp)
    · rw [tk, List.mem_append, List.mem_singleton] at hp
      rcases hp with hp | rfl
      · exact g.all p hp
      · exact c
  · have pm := c2 c
    refine ⟨fun p hp => ?_, fun p hp => ?_, by rw [pm.length_eq]; exact Nat.succ_le_succ g.len⟩
    · rw [tk]
      rcases List.mem_cons.mp (pm.mem_iff.mp hp) with rfl | z
      · exact List.mem_append_right _ List.mem_cons_self
      · exact List.mem_append_left _ (g.sub p z)
    · rw [(pm.map (·.2)).mem_iff, List.map_cons, List.mem_cons]
      rw [tk, List.mem_append, List.mem_singleton] at hp
      rcases hp with hp | rfl
      · exact .inr (g.all p hp)
      · exact .inl rfl
section
variable {P : Program} {w : World} {A : Around} {E : Value → Shared → Prop} {s : Shared}
theorem NSet.on {h h' : Heap} {a : Addr} {L : NL} {es : Array (Int × Value)} {ep : Nat} {t : SetTable} (R : NSet w h a L es ep t) (ha : ∀ o, h.get? a = some o → h'.get? a = some o) (hk : ∀ p ∈ L, TKey h' p.1 p.2) : NSet w h' a L es ep t := by
  obtain ⟨⟨o, ho, r⟩, b, c, d, e, f, g, i, j⟩ := R
  exact ⟨⟨o, ha o ho, r⟩, b, c, d, hk, f, g, i, j⟩
end
end Vd
end
section
namespace Vd
open PySem L2 PySem.W PyProof.Rows
section
variable {P : Program} {w : World} {A : Around} {E : Value → Shared → Prop} {s : Shared}
end
end Vd
end
section
namespace Vd
open PySem L2 PySem.W PyProof.Rows
mutual
def D.ky : D → NestedKey
  | .int i => .num i
  | .tup xs => .tup (kys xs)
  | _ => .none
def kys : List D → List NestedKey
  | [] => []
  | x :: xs => x.ky :: kys xs
end
mutual
def D.nu : D → Bool
  | .int _ => true
  | .tup xs => nus xs
  | _ => false
def nus : List D → Bool
  | [] => true
  | x :: xs => x.nu && nus xs
end
def D.tk : D → Bool
  | .tup xs => nus xs && decide ((D.tup xs).ky.depth ≤ 8)
  | _ => false
section
variable {K : PySem.W.Frag} {X : Cx} {Sh : AS} {H : Hp} {pins : List (Addr × Obj)} {σ : L2.St} {s : Shared}
end
section
variable {X : Cx}
end
end Vd
end
section
namespace PySem
open Sem (wp)
open AutoSeq1 (wpAny_loadPart')
section
variable {prog : Program} {w : World} {A : Around} {E : Value → Shared → Prop} {s : Shared}
end
end PySem
namespace Vd
open PySem L2 PySem.W PyProof.Rows
section
variable {K : PySem.W.Frag} {X : Cx} {P : List Nat}
end
end Vd
end
section
namespace Vd
open PySem PySem.Spec PyProof.Rows L2 LamX
section
variable {X : Cx} {pins : List (Addr × Obj)} {σ : L2.St} {H : Hp} {s : Shared}
structure Made (H H1 : Hp) : Prop where
  ext : ExtN H H1
  tab : Tabs tabT H → Tabs tabT H1
  lv : ∀ b, H b ≠ none → H1 b ≠ none
theorem Made.refl (H : Hp) : Made H H := ⟨ExtN.refl H, id, fun _ h => h⟩
theorem Made.kp {Sh F : AS} {H H1 : Hp} (m : Made H H1) : Kp Sh F H H1 :=
  ⟨fun b o h _ t => m.ext b o h t, fun b h _ => m.lv b h, fun b xs h => m.ext b _ h (fun ps z => by cases z), fun b o u h => m.ext b _ h (fun ps z => by cases z), m.tab⟩
theorem Made.stp {Sh F : AS} {H H1 : Hp} (m : Made H H1) (w : Wf Sh F H) : Stp Sh F H Sh F H1 :=
  ⟨m.kp, .refl, fun _ h => .inl h, fun _ h => .inl h, ⟨w.dj, fun b z => m.lv b (w.lf b z), fun b z => m.lv b (w.ls b z)⟩⟩
theorem lam_new {c P : Addr} {params : Arguments} {body : Expr} {scope : Scope} {pos : Pos} {E Q : Value → Shared → Prop} {qn : Str} (hq : X.env.qual ++ "<lambda>" = qn) (I : Inv X pins σ H s) (TB : TabB X.base X.mg c P) (hcode : X.env.code = .ref c)
    (hm : (P, qn) ∈ tabT) (hu : ∀ p ∈ tabT, p.1 = P → p.2 = qn) (hT : Tabs tabT H) (hdef : defaultsOf params X.env = ([], []))
    (hfree : ∀ y ∈ scope.names, y.2 = .free → ∃ c, X.env.cells.lookup y.1 = some c)
    (k : ∀ (f c' : Addr) (pm ctv : Value) (H1 : Hp) (s' : Shared), Inv X pins σ H1 s' → Made H H1 →
      s'.heap.get? f = some (PySem.W.kla_obj "<lambda>" qn params body scope (cloFrom X.env.cells scope.names []) pm c' ctv) →
      H1 f = none → f ∉ frs X.stack → H1 c' = some (CodeO c' qn) → Q (.ref f) s') :
    wpAny (model X.prog X.w) X.A (eval (.Lambda params body scope pos) X.env) Q E s := by
  subst hq
  obtain ⟨tb, aP, okP, among⟩ := hT _ hm
  have rawP : s.heap.get? P = some { cls := .none, data := .fields tb } := I.hok P _ aP
  have bP : s.heap.BuiltinsAt X.mg P := TB.bm.keeps I.bk
  have cl := closure_ok hfree
  have gl := I.mod.glob.keeps I.bk
  have cd := TB.code.keeps I.bk
  have nofr : ∀ f, s.heap.objs.size ≤ f → f ∉ frs X.stack := fun f hf z => by
    rcases List.mem_cons.mp (I.stkSub _ z) with e | e
    · have lt := I.lt
      subst e
      exact absurd lt (Nat.not_lt.mpr hf)
    · exact I.nofs hf e
  refine PySem.W.kla_eval hdef ?_
  cases hc : codeAmong pos tb.toList with
  | some cv =>
    obtain ⟨c', rfl, hco⟩ := among pos cv hc
    refine PySem.W.kla_makeFunctionHit cl I.ok.glob gl hcode cd rawP okP hc bP fun ctv g tk up sz => ?_
    have J := I.kept (t' := tk) (h' := g.push (PySem.W.kla_obj "<lambda>" (X.env.qual ++ "<lambda>") params body scope (cloFrom X.env.cells scope.names []) ((X.mg "__name__").getD .none) c' ctv)) fun b o e =>
      Heap.get?_push_of_some _ (up b o e)
    exact k _ c' _ ctv H _ J (.refl H) (Heap.get?_push_size _ rfl) (I.hok.fresh sz) (nofr _ sz) hco
  | none =>
    refine PySem.W.kla_makeFunction cl I.ok.glob gl hcode cd rawP okP hc TB.gP bP fun c' ctv g tk but lo hi rec_ newP => ?_
    obtain ⟨c0, oc, fs, t, e0, goc, dat, nam⟩ := rec_
    cases e0
    have big : s.heap.objs.size ≤ g.objs.size := by omega
    have nC : H c' = none := I.hok.fresh lo
    have nPc : P ≠ c' := ne_of_none aP nC
    have J := inv_table (q := X.env.qual ++ "<lambda>") (t' := tk) (more := #[rawInt pos.line, rawInt pos.col, .ref c']) I aP (fun b o hb e => Heap.get?_push_of_some _ (but b o hb e))
      (Heap.get?_push_of_some (PySem.W.kla_obj "<lambda>" (X.env.qual ++ "<lambda>") params body scope (cloFrom X.env.cells scope.names []) ((X.mg "__name__").getD .none) c' ctv) newP) lo ⟨oc, fs, t, Heap.get?_push_of_some _ goc, dat, nam⟩
    have el : (tb ++ #[rawInt pos.line, rawInt pos.col, .ref c']).toList = tb.toList ++ [rawInt pos.line, rawInt pos.col, .ref c'] := by simp
    have ex : ExtN H (upd (upd H P (.tbl (tb ++ #[rawInt pos.line, rawInt pos.col, .ref c']))) c' (CodeO c' (X.env.qual ++ "<lambda>"))) := fun b o e n => by
      have b1 : b ≠ c' := ne_of_none e nC
      have b2 : b ≠ P := fun z => by
        subst z
        rw [aP] at e
        exact n tb (Option.some.inj e).symm
      rw [upd_ne b1, upd_ne b2, e]
    refine k _ c' _ ctv _ _ J ⟨ex, fun hT p hp => ?_, fun b hb => ?_⟩ (Heap.get?_push_size _ rfl) ?_ (nofr _ big) upd_same
    · by_cases hb : p.1 = P
      · rw [hu p hp hb, hb]
        refine ⟨_, by rw [upd_ne nPc, upd_same], by rw [el]; exact PySem.TriplesOk_snoc _ _ _ _ okP, fun p' cv hcv => ?_⟩
        rw [el] at hcv
        rcases among_app _ okP hcv with z | rfl
        · obtain ⟨c1, e1, e2⟩ := among p' cv z
          exact ⟨c1, e1, ex _ _ e2 codeO_ne⟩
        · exact ⟨c', rfl, upd_same⟩
      · obtain ⟨tb2, h1, h2, h3⟩ := hT p hp
        refine ⟨tb2, by rw [upd_ne (ne_of_none h1 nC), upd_ne hb, h1], h2, fun p' cv hcv => ?_⟩
        obtain ⟨c1, e1, e2⟩ := h3 p' cv hcv
        exact ⟨c1, e1, ex _ _ e2 codeO_ne⟩
    · by_cases b1 : b = c'
      · rw [b1, upd_same]; exact fun z => nomatch z
      · rw [upd_ne b1]
        by_cases b2 : b = P
        · rw [b2, upd_same]; exact fun z => nomatch z
        · rw [upd_ne b2]; exact hb
    · rw [upd_ne (Nat.ne_of_gt hi), upd_ne (Nat.ne_of_gt (Nat.lt_of_lt_of_le (Heap.lt_size rawP) big))]
      exact I.hok.fresh big
end
end Vd
end
section
namespace Vd
open PySem PySem.Spec PyProof.Rows L2 LamX
structure LamP (sc scope : Scope) (x : Str) : Prop where
  kind : scope.kind = .function
  co : scope.isCoroutine = false
  gen : scope.isGenerator = false
  par : scope.names.lookup x = some .local
  own : ∀ y ∈ scope.names, y.2 ≠ .cell ∧ (y.2 = .local → y.1 = x)
  free : ∀ y ∈ scope.names, y.2 = .free → sc.names.lookup y.1 = some .cell ∨ sc.names.lookup y.1 = some .free
def lamPB (sc scope : Scope) (x : Str) : Bool :=
  (decide (scope.kind = .function) && !scope.isCoroutine && !scope.isGenerator && decide (scope.names.lookup x = some .local)) &&
    scope.names.all fun y => (!decide (y.2 = .cell) && (!decide (y.2 = .local) || decide (y.1 = x))) && (!decide (y.2 = .free) || decide (sc.names.lookup y.1 = some .cell) || decide (sc.names.lookup y.1 = some .free))
theorem lamP_by {sc scope : Scope} {x : Str} (h : lamPB sc scope x = true) : LamP sc scope x := by
  unfold lamPB at h
  simp only [Bool.and_eq_true, Bool.or_eq_true, Bool.not_eq_true', decide_eq_true_eq, decide_eq_false_iff_not, List.all_eq_true] at h
  obtain ⟨⟨⟨⟨k, c⟩, g⟩, p⟩, al⟩ := h
  exact ⟨k, c, g, p, fun y hy => ⟨(al y hy).1.1, fun e => (al y hy).1.2.resolve_left fun n => n e⟩, fun y hy e => by
    rcases (al y hy).2 with (n | z) | z
    · exact absurd e n
    · exact .inl z
    · exact .inr z⟩
section
variable {X : Cx} {pins : List (Addr × Obj)} {σ : L2.St} {H HZ : Hp} {s s1 : Shared} {scope : Scope} {x : Str}
theorem LamP.has (L : LamP X.env.scope scope x) (ok : X.Ok) : ∀ y ∈ scope.names, y.2 = .free → ∃ c, X.env.cells.lookup y.1 = some c := fun y hy e => ok.has _ (L.free y hy e)
theorem lam_enter {A : Around} {outer : List Env} {E : XK} {f c' : Addr} {h₁ : Heap} {tk i0 : Nat} {u0 : Value} {v0 : V} (I : Inv X pins σ H s) (L : LamP X.env.scope scope x) (hN : ∀ i, X.N[i]? = some x → i = i0) (hx : X.N[i0]? = some x)
    (rv : RelV v0 u0) (e0 : Env0 X.prog X.w X.K X.mg X.base A outer s1 HZ) (hd : A.handled = none) (un : Un (frs X.stack) [] H HZ s.heap s1.heap)
    (hns : h₁.Ns s1.heap.objs.size fun y => ([(x, u0)] : List (Str × Value)).reverse.lookup y) (kp : ∀ b o, s1.heap.get? b = some o → h₁.get? b = some o) :
    Inv (lamCx X A outer s1 HZ E scope f c') [] (σ.set i0 (some v0)) HZ { s1 with heap := h₁, toks := tk } := by
  have fr := L.has I.ok
  have back : ∀ {y c}, (cloFrom X.env.cells scope.names []).lookup y = some c → X.env.cells.lookup y = some c := fun {y c} e => by
    rcases cloFrom_mem (PySem.mem_of_lookup e) with z | ⟨m, ec⟩
    · cases z
    · obtain ⟨c1, h1⟩ := fr _ m rfl
      have h1 : X.env.cells.lookup y = some c1 := h1
      have : c = c1 := by rw [ec, h1] <;> rfl
      rw [this]; exact h1
  have there : ∀ {y}, scope.names.lookup y = some .free → ∃ c, (cloFrom X.env.cells scope.names []).lookup y = some c := fun {y} e =>
    mem_lookup (cloFrom_has (cells := X.env.cells) (acc := []) (show (y, NameKind.free) ∈ scope.names from PySem.mem_of_lookup e))
  have cellUp : ∀ {c : Addr} {v : Option Value}, H c = none → s.heap.IsCell c v → h₁.IsCell c v := fun {c v} n ⟨o, ho, d⟩ => by
    obtain ⟨sl, q⟩ := un.any ho n (by simp)
    exact ⟨_, kp _ _ q, d⟩
  have nil : ∀ b : Addr, b ∉ (lamCx X A outer s1 HZ E scope f c').ex := fun b z => absurd (show b ∈ ([] : List Addr) from z) (by simp)
  refine ⟨⟨e0.mod, L.kind, rfl, rfl, Nat.le_refl _, fun y z c a b => I.ok.inj y z c (back a) (back b), ?_, fun _ _ z _ => Bool.noConfusion z, fun _ => hd, Around.frames_deeper e0.frames, .inr ⟨rfl, rfl⟩, fun b z => absurd z (nil b), e0.bs, e0.bsz, fun b _ _ => nil b, fun b z => absurd z (nil b), e0.funs, e0.frf⟩,
    rfl, e0.bare, Un.kept kp, ⟨_, hns, ?_⟩, ?_, e0.hok.fresh (Nat.le_refl _), ?_, fun q hq => absurd (show q ∈ ([] : List (Addr × Obj)) ++ [] from hq) (by simp), e0.hok.kept kp, by rw [List.length_set]; exact I.len⟩
  · intro y hy
    have hy : scope.names.lookup y = some .cell ∨ scope.names.lookup y = some .free := hy
    rcases hy with hy | hy
    · exact absurd rfl (L.own _ (PySem.mem_of_lookup hy)).1
    · exact there hy
  · intro i y v e1 e2 e3
    have e3 : Vis scope y := e3
    rcases e3 with k | k | k
    · have : y = x := (L.own _ (PySem.mem_of_lookup k)).2 rfl
      subst this
      have hi := hN i e1
      subst hi
      have e2 : (σ.set i (some v0))[i]? = some (some v) := e2
      have il : i < σ.length := by
        have := (List.getElem?_eq_some_iff.mp e2).1
        rwa [List.length_set] at this
      rw [List.getElem?_set_self il] at e2
      cases e2
      exact ⟨u0, rv, .inl ⟨L.par, by simp⟩⟩
    · exact absurd rfl (L.own _ (PySem.mem_of_lookup k)).1
    · have ni : i0 ≠ i := fun z => by
        subst z
        have e1 : X.N[i0]? = some y := e1
        rw [hx] at e1
        cases e1
        rw [L.par] at k
        cases k
      have e2 : (σ.set i0 (some v0))[i]? = some (some v) := e2
      rw [List.getElem?_set_ne ni] at e2
      obtain ⟨m, hn, hl⟩ := I.loc
      have fy := L.free _ (PySem.mem_of_lookup k) rfl
      obtain ⟨w', r, q⟩ := hl i y v e1 e2 (.inr fy)
      obtain ⟨c2, h2⟩ := there k
      refine ⟨w', r, .inr ⟨.inr k, c2, h2, ?_⟩⟩
      have c1 := back h2
      rcases q with ⟨z, _⟩ | ⟨_, c3, e', z⟩
      · have z : X.env.scope.names.lookup y = some .local := z
        rcases fy with g | g <;> (rw [show X.env.scope.names.lookup y = _ from g] at z; cases z)
      · rw [c1] at e'
        cases e'
        exact cellUp (I.freeC y _ c1) z
  · intro y c e
    obtain ⟨w', z⟩ := I.cell y c (back e)
    exact ⟨w', cellUp (I.freeC y c (back e)) z⟩
  · intro y c e
    obtain ⟨v, o, ho, d⟩ := I.cell y c (back e)
    exact un.free c o ho (I.freeC y c (back e)) (by simp)
end
end Vd
end
section
namespace Vd
open PySem PySem.Spec PyProof.Rows L2 LamX
theorem room2 {k : Nat} {A : Around} (r : Room (k + 1) A) (env : Env) : Room k (A.in1.in1.deeper env) :=
  ⟨r.hd, by have := r.dp; show A.depth + 1 + 3 * k + 5 < _; omega, by have := r.un; show A.units + 1 + 1 + 3 + 16 * k + 200 < _; omega⟩
section
variable {X : Cx} {pins pinsZ : List (Addr × Obj)} {σ : L2.St} {H HZ : Hp} {s sZ : Shared} {scope : Scope} {x : Str}
theorem lam_turn {k i0 : Nat} {qn : Str} {f c' : Addr} {pm ctv u0 : Value} {v0 : V} {params : Arguments} {body : Expr} {tb : TE} {Q : VK} (hq : X.env.qual ++ "<lambda>" = qn) (I : Inv X pins σ H s) (L : LamP X.env.scope scope x)
    (hN : ∀ i, X.N[i]? = some x → i = i0) (hx : X.N[i0]? = some x)
    (hf : s.heap.get? f = some (PySem.W.kla_obj "<lambda>" qn params body scope (cloFrom X.env.cells scope.names []) pm c' ctv)) (hfn : H f = none) (hfr : f ∉ frs X.stack)
    (hbind : bindArgs (PySem.W.kla_fn "<lambda>" qn params body scope (cloFrom X.env.cells scope.names []) pm (.ref c') ctv) ⟨[u0], []⟩ = pure [(x, u0)])
    (hr : Room (k + 1) X.A) (hbody : ∀ (A : Around) (outer : List Env) (s : Shared) (H : Hp), Room k (A.deeper (lamEnv X scope s.heap.objs.size f c')) → PE (lamCx X A outer s H (fun _ _ _ => False) scope f c') body tb)
    (IZ : Inv X pinsZ σ HZ sZ) (un : Un (frs X.stack) [] H HZ s.heap sZ.heap) (hco : HZ c' = some (CodeO c' qn)) (rv : RelV v0 u0) (ht : tb (σ.set i0 (some v0)) HZ Q) :
    wpAny (model X.prog X.w) X.A.in1.in1 (call (.ref f) [u0]) (L2.CE X.stack X.prog X.w HZ sZ Q) (fun _ _ => False) sZ := by
  subst hq
  have fZ := un.keep f _ hf hfn hfr (fun z => nomatch (show f ∈ ([] : List Addr) from z))
  obtain ⟨⟨oc, vs, t, hoc, hdc, hvc⟩, _, _⟩ := IZ.hok c' _ hco
  have e0 : Env0 X.prog X.w X.K X.mg X.base X.A.in1.in1 X.stack sZ HZ := ⟨IZ.env0.frames, IZ.env0.mod, IZ.env0.bs, IZ.env0.bsz, IZ.env0.funs, IZ.env0.frf, IZ.env0.hok, IZ.env0.bare⟩
  refine wpAny_call (codeAny_mono (R := fun r s' => match r with | .ok (.ret u) => L2.CE X.stack X.prog X.w HZ sZ Q u s' | _ => False) ?_ fun r s' h => ?_)
  · refine PySem.W.kla_callFunE (A := X.A.in1.in1) (show X.A.in1.in1.depth < recursionLimit from hr.depth) fZ rfl L.co L.gen rfl ⟨c', oc, vs, t, rfl, hoc, hdc, hvc⟩ ?_
    rw [hbind]
    refine wpAny_pure (wpAny_newFunctionEnv (fun y hy => (L.own y hy).1) (fun y hy => ?_) (fun h₁ hns hsb => ⟨IZ.nolimit.fresh _ hsb, ?_⟩) L.kind)
    · rw [List.mem_singleton.mp hy]; exact L.par
    · show codeAny _ _ (.expr body (lamEnv X scope sZ.heap.objs.size f c')) _ _
      have up : ∀ b o, sZ.heap.get? b = some o → h₁.get? b = some o := fun b o e => hsb.extBut b o (Nat.ne_of_lt (Heap.lt_size e)) (Heap.get?_push_of_some _ e)
      have J := lam_enter (tk := sZ.toks + ([(x, u0)] : List (Str × Value)).length) (f := f) (c' := c') (E := fun _ _ _ => False) I L hN hx rv e0 hr.hd un hns up
      refine PySem.W.kla_codeExpr (wpAny_mono ((hbody _ _ sZ HZ (room2 hr _)).run [] _ _ HZ Q J ht) (fun v s' h => ?_) fun e s' h => ?_)
      · obtain ⟨w', H', J', r, q⟩ := h
        exact ⟨w', H', J'.os, J'.bare, J'.base, J'.hok, r, q⟩
      · have h : wpAny _ _ _ _ _ s' := h
        refine wpAny_mono h (fun _ s'' g => ?_) fun _ s'' g => ?_
        · obtain ⟨_, _, _, _, _, _, _, _, _, _, _, _, g⟩ := g
          exact g.elim
        · obtain ⟨_, _, _, _, _, _, _, _, _, _, _, _, g⟩ := g
          exact g.elim
  · match r, h with
    | .ok (.ret u), h => exact h
end
end Vd
end
section
namespace VdS
open PySem PySem.Calls PyProof.Rows PySem.W
section
variable {prog : Program} {w : World} {A : Around} {E : Value → Shared → Prop} {vs : List Value} {kz : List PyData}
abbrev LO (xs : Array Value) (n : Nat) : Obj := seqObj "list" xs n
abbrev emptied (h : Heap) (p : Addr) : Heap := h.update p (Obj.mapSeq fun _ => (#[] : Array Value))
abbrev filled (h : Heap) (p : Addr) (out : List Value) : Heap := h.update p (Obj.mapSeq fun _ => out.toArray)
theorem tail_ok {P : PySem.Fin → Shared → Prop} {sh : Shared} {lst kl : Addr} {n0 n1 : Nat} {ks : Array Value} {res : List Value} {st : SortSt}
    (hk : sh.heap.get? kl = some (LO ks n0)) (hl : sh.heap.get? lst = some (LO #[] n1)) (ne : kl ≠ lst) (z1 : ks.size ≤ sizeLine) (z2 : res.length ≤ sizeLine)
    (hf : failedOf st = none) (hr : (arrOf st).map (·.2) = res.toArray) (fin : P (.done (.ret .none)) { sh with heap := filled (emptied sh.heap kl) lst res }) :
    wpAny (model prog w) A (ksk_tail lst false n1 (.ref kl) st) P E sh := by
  have same := Heap.SameBut.update sh.heap kl (Obj.mapSeq fun _ => (#[] : Array Value))
  have still : (emptied sh.heap kl).get? lst = some (LO #[] n1) := (same.2 lst ne.symm).trans hl
  have room : res.toArray.size ≤ sizeLine + 1 := by simp; omega
  unfold ksk_tail
  simp only [hr, Bool.false_eq_true, if_false]
  refine wpAny_bind (listUpdate_at hk rfl (wpAny_bind (wpAny_letGo (wpAny_bind (seqEpoch_at still rfl (wpAny_bind (listUpdate_at still rfl ?_ (Nat.zero_le _) room)))))) z1 (Nat.zero_le _))
  rw [hf]
  simp only [bne_self_eq_false, Bool.false_eq_true, if_false]
  exact wpAny_pure fin
theorem end_ok {P : PySem.Fin → Shared → Prop} {κ : PyProof.Rows.KeyKind} {sh : Shared} {lst kl : Addr} {n0 n1 : Nat} {ks : Array Value}
    (hk : sh.heap.get? kl = some (LO ks n0)) (hl : sh.heap.get? lst = some (LO #[] n1)) (ne : kl ≠ lst) (S : SortsAt prog w A sh κ ks.toList) (sz : ks.size = vs.length) (z : vs.length ≤ sizeLine)
    (fin : P (.done (.ret .none)) { sh with heap := filled (emptied sh.heap kl) lst (sortVals κ false ks.toList vs) }) :
    wpAny (model prog w) A (ksk_end lst false vs.toArray n1 (.ref kl) ks) P E sh := by
  obtain ⟨kd, kind, runs⟩ := S.kind
  have kl1 : ks.toList.length = vs.length := by rw [Array.length_toList]; exact sz
  have ol : (sortVals κ false ks.toList vs).length ≤ sizeLine := by rw [sortVals_length false kl1]; exact z
  have kof : PyProof.Rows.KeysOf κ (ks.zip vs.toArray) := keysOf_zip S.keys
  have zs : (ks.zip vs.toArray).size = vs.length := by simp [sz]
  have outIs : ∀ st' : SortSt, (arrOf st').Perm (ks.zip vs.toArray) → SortedToK κ (arrOf st') (ks.zip vs.toArray).size → Stable κ (arrOf st') (ks.zip vs.toArray) → (arrOf st').map (·.2) = (sortVals κ false ks.toList vs).toArray := fun st' a b c => by
    have e := sort_out (rev := false) (keys := ks) (items := vs.toArray) (xs := arrOf st') (κ := κ) kof a b c
    have g := congrArg List.toArray e
    simp only [Bool.false_eq_true, if_false] at g
    rw [Array.toArray_toList] at g
    exact g
  unfold ksk_end
  simp only [Bool.false_eq_true, if_false]
  by_cases few : vs.toArray.size < 2
  · rw [if_pos few, if_pos few]
    refine wpAny_bind (wpAny_pure ?_)
    rw [StateT.run_pure]
    refine wpAny_bind (wpAny_pure (tail_ok hk hl ne (by rw [sz]; exact z) ol rfl (outIs (SortSt.mk' general' (ks.zip vs.toArray) #[] 7 none) (Array.Perm.refl _) (fun i j ij jn => ?_) (Stable.refl _)) fin))
    rw [zs] at jn
    simp only [List.size_toArray] at few
    obtain rfl : i = j := by omega
    exact KeyOrd.kle_refl _
  · rw [if_neg few, if_neg few]
    simp only [List.size_toArray] at few
    refine wpAny_bind (runs (by omega) _ (wpAny_bind (wpAny_mono (H.wpS_sortRunsSt (κ := κ) (kd := kd) (a₀ := ks.zip vs.toArray) (st := SortSt.mk' kd (ks.zip vs.toArray) #[] 7 none)
      (Q := fun _ st' => failedOf st' = none ∧ (arrOf st').map (·.2) = (sortVals κ false ks.toList vs).toArray) kind kof ⟨Array.Perm.refl _, rfl, rfl⟩ rfl (Stable.refl _) (by rw [zs]; omega) fun st' a b c d => ⟨b, outIs st' a c d⟩) ?_ fun _ _ e => e)))
    rintro ⟨⟨⟩, st'⟩ s' ⟨rfl, nofail, out⟩
    exact tail_ok hk hl ne (by rw [sz]; exact z) ol nofail out fin
structure Turns (prog : Program) (w : World) (A : Around) (f : Value) (vs : List Value) (kz : List PyData) (lst kl : Addr) (J : Nat → Nat → Shared → Prop) (T : Nat → Nat → Value → Shared → Prop) : Prop where
  call : ∀ n1 i v s, vs[i]? = some v → J n1 i s → wpAny (model prog w) A (call f [v]) (fun u s' => T n1 i u s') (fun _ _ => False) s
  look : ∀ n1 i u s, T n1 i u s → ∃ ks n, s.heap.get? kl = some (LO ks n) ∧ ks.size = i
  push : ∀ n1 i u s ks n, i < vs.length → T n1 i u s → s.heap.get? kl = some (LO ks n) → J n1 (i + 1) { s with heap := s.heap.update kl (Obj.mapSeq (·.push u)) }
  last : ∀ n1 s, J n1 vs.length s → s.heap.get? lst = some (LO #[] n1) ∧ ∃ ks n, s.heap.get? kl = some (LO ks n) ∧ EachIs (fun v k => ∃ as, Reads s.heap v k as) ks.toList kz
theorem rest_ok {P : PySem.Fin → Shared → Prop} {sh : Shared} {f : Value} {lst kl : Addr} {n1 : Nat} {J : Nat → Nat → Shared → Prop} {T : Nat → Nat → Value → Shared → Prop} (tn : Turns prog w A f vs kz lst kl J T)
    (ne : kl ≠ lst) (eqn : kz.length = vs.length) (z : vs.length ≤ sizeLine) (al : AllAlike kz) (so : Sortable kz) (un : ∀ d, d ∈ kz → A.units + d.depth < cLine) (beg : J n1 0 sh)
    (fin : ∀ s' ks n out, J n1 vs.length s' → s'.heap.get? kl = some (LO ks n) → KeyedOut false kz vs out → P (.done (.ret .none)) { s' with heap := filled (emptied s'.heap kl) lst out }) :
    wpAny (model prog w) A (ksk_rest lst f false vs.toArray n1 (.ref kl)) P E sh := by
  unfold ksk_rest
  refine wpAny_bind (wpAny_rule ?_)
  first
    | rw [List.forIn_toArray]
    | (rw [← Array.forIn_toList]; simp only [List.toList_toArray])
  refine wpAny_bind (ksk_fold (J n1) vs 0 sh beg (fun i v s' hv hj => ?_) fun s' hj => ?_)
  · rw [Nat.zero_add] at hj ⊢
    have il : i < vs.length := (List.getElem?_eq_some_iff.mp hv).1
    refine wpAny_bind (wpAny_attempt (wpAny_mono (tn.call n1 i v s' hv hj) (fun u s2 ht => ?_) fun _ _ bad => bad.elim))
    obtain ⟨ks, n, at_, sz⟩ := tn.look n1 i u s2 ht
    have nx := tn.push n1 i u s2 ks n il ht at_
    dsimp only
    exact wpAny_bind (listUpdate_at at_ rfl (wpAny_pure ⟨rfl, nx⟩) (by omega) (by rw [Array.size_push]; omega))
  · rw [Nat.zero_add] at hj
    obtain ⟨hl, ks, n, at_, rd⟩ := tn.last n1 s' hj
    have sz : ks.size = vs.length := by
      have l := rd.length
      rw [Array.length_toList] at l
      omega
    refine wpAny_bind (listItems_at at_ rfl ?_)
    exact end_ok (κ := dataKind s'.heap kz) at_ hl ne (SortsAt.data rd al so un) sz z (fin s' ks n _ hj at_ ⟨s'.heap, ks.toList, al, rfl, rd⟩)
def askH (h : Heap) (vs : List Value) : Heap := ((emptied (copyHeap h vs) (h.objs.size + 1)).push (seqObj "tuple" vs.toArray 0)).push (LO #[] 0)
theorem sorted_ok {sh : Shared} {l q : Addr} {J : Nat → Nat → Shared → Prop} {T : Nat → Nat → Value → Shared → Prop} {Q : Value → Shared → Prop} (hl : sh.heap.IsList l vs.toArray) (z : vs.length ≤ sizeLine)
    (tn : Turns prog w A.in1.in1 (.ref q) vs kz (sh.heap.objs.size + 1) (sh.heap.objs.size + 3) J T) (eqn : kz.length = vs.length) (al : AllAlike kz) (so : Sortable kz) (un : ∀ d, d ∈ kz → A.in1.in1.units + d.depth < cLine)
    (beg : ∀ n1, (askH sh.heap vs).get? (sh.heap.objs.size + 1) = some (LO #[] n1) → (askH sh.heap vs).get? (sh.heap.objs.size + 3) = some (LO #[] 0) → J n1 0 { sh with heap := askH sh.heap vs })
    (fin : ∀ n1 s' ks n out, J n1 vs.length s' → s'.heap.get? (sh.heap.objs.size + 3) = some (LO ks n) → KeyedOut false kz vs out → Q (.ref (sh.heap.objs.size + 1)) { s' with heap := filled (emptied s'.heap (sh.heap.objs.size + 3)) (sh.heap.objs.size + 1) out }) :
    wpAny (model prog w) A (call (.builtin "sorted") [.ref l] [(Str.ofString "key", .ref q)]) Q E sh := by
  refine sorted_of_sort hl z (ksk_s1 _ _) (fun _ => ksk_l1 _ _) fun E' => ?_
  rw [ksk_t1]
  have c0 := copyHeap_at sh.heap vs
  obtain ⟨n1, c1⟩ : ∃ n1, (emptied (copyHeap sh.heap vs) (sh.heap.objs.size + 1)).get? (sh.heap.objs.size + 1) = some (LO #[] n1) := ⟨_, get?_update_seq c0 fun _ => #[]⟩
  have sz0 : (copyHeap sh.heap vs).objs.size = sh.heap.objs.size + 2 := by
    unfold copyHeap
    simp [Heap.size_update, size_push']
  have sz1 : ((emptied (copyHeap sh.heap vs) (sh.heap.objs.size + 1)).push (seqObj "tuple" vs.toArray 0)).objs.size = sh.heap.objs.size + 3 := by rw [size_push', Heap.size_update, sz0]
  unfold ksk_tree
  refine wpAny_bind (listItems_at c0 rfl (wpAny_bind (listUpdate_at c0 rfl (wpAny_bind (seqEpoch_at c1 rfl (wpAny_bind (wpAny_newTuple (wpAny_bind (wpAny_newList ?_ (Nat.zero_le _))) (by exact z))))) (by simpa using z) (Nat.zero_le _))))
  refine wpAny_holding ?_
  have c3 : (askH sh.heap vs).get? (sh.heap.objs.size + 3) = some (LO #[] 0) := by
    unfold askH
    rw [← sz1]
    exact Heap.get?_push_size _ rfl
  have c2 : (askH sh.heap vs).get? (sh.heap.objs.size + 1) = some (LO #[] n1) := Heap.get?_push_of_some _ (Heap.get?_push_of_some _ c1)
  have goal := rest_ok (prog := prog) (w := w) (E := E') (A := A.in1.in1) (P := fun f s' => f = .done (.ret .none) ∧ Q (.ref (sh.heap.objs.size + 1)) s') tn (by show sh.heap.objs.size + 3 ≠ sh.heap.objs.size + 1; omega) eqn z al so un (beg n1 c2 c3) fun s' ks n out a b c => ⟨rfl, fin n1 s' ks n out a b c⟩
  rw [sz1]
  exact goal
end
end VdS
end
section
namespace Vd
open PySem PySem.Spec PyProof.Rows L2 LamX PySem.W
def lkS : Slot → Slot
  | .own d => .lk d
  | .lk d => .lk d
  | .no => .no
def lamDs (ds : Ds) (v : Nat) (x : D) : Ds := (ds.map lkS).set v (.lk x)
def keysF (v : Nat) (elt : ES) (ds : Ds) : List D → Res (List D)
  | [] => .ok []
  | x :: xs => (elt (lamDs ds v x)).bind fun p => (keysF v elt ds xs).bind fun ks => .ok (p.1.frz :: ks)
def tupB : PyData → Bool
  | .tuple (_ :: _) => true
  | _ => false
def atomB : PyData → Bool
  | .none => false
  | .tuple _ => false
  | _ => true
def srtB (kz : List PyData) : Bool := ((kz.all fun d => kz.all fun e => PySem.W.alike d e) && (kz.all tupB || kz.all atomB)) && kz.all fun d => decide (d.depth ≤ 64)
theorem srtB_ok {kz : List PyData} (h : srtB kz = true) : AllAlike kz ∧ Sortable kz ∧ ∀ d ∈ kz, d.depth ≤ 64 := by
  unfold srtB at h
  simp only [Bool.and_eq_true, Bool.or_eq_true, List.all_eq_true, decide_eq_true_eq] at h
  obtain ⟨⟨h1, h2⟩, h3⟩ := h
  refine ⟨h1, ?_, h3⟩
  rcases h2 with h2 | h2
  · refine .inl fun d hd => ?_
    have := h2 d hd
    match d, this with
    | .tuple (x :: r), _ => exact ⟨x, r, rfl⟩
  · refine .inr fun d hd => ?_
    have := h2 d hd
    refine ⟨fun e => ?_, fun ys e => ?_⟩ <;> (subst e; cases this)
def sortBy (xs : List D) (kz : List PyData) : List D := ((xs.zip kz).mergeSort (dataLe false fun p => p.2)).map fun p => p.1
def sortF (v : Nat) (elt : ES) (x : D) : ES := fun ds => match x with
  | .lst _ xs => if (isFzs xs && decide (xs.length ≤ sizeLine)) = true then (keysF v elt ds xs).bind fun ks => if srtB (pys ks) = true then .ok (.lst true (sortBy xs (pys ks)), ds) else .bad else .bad
  | _ => .bad
def rSortK (v : Nat) (elt : ES) (o : Opd) : ES := o (sortF v elt)
theorem keysF_len {v : Nat} {elt : ES} {ds : Ds} : ∀ {xs ks : List D}, keysF v elt ds xs = .ok ks → ks.length = xs.length
  | [], _, h => by cases h; rfl
  | x :: xs, ks, h => by
    unfold keysF at h
    obtain ⟨p, _, h⟩ := Res.of_bind h
    obtain ⟨r, e, h⟩ := Res.of_bind h
    cases h
    rw [List.length_cons, List.length_cons, keysF_len e]
theorem keysF_get {v : Nat} {elt : ES} {ds : Ds} : ∀ {xs ks : List D} {i : Nat} {x : D}, keysF v elt ds xs = .ok ks → xs[i]? = some x → ∃ d ds', elt (lamDs ds v x) = .ok (d, ds') ∧ ks[i]? = some d.frz
  | [], _, _, _, _, e => by simp at e
  | y :: xs, ks, i, x, h, e => by
    unfold keysF at h
    obtain ⟨p, e1, h⟩ := Res.of_bind h
    obtain ⟨r, e2, h⟩ := Res.of_bind h
    cases h
    cases i with
    | zero =>
      rw [List.getElem?_cons_zero] at e
      cases e
      exact ⟨p.1, p.2, e1, rfl⟩
    | succ i =>
      rw [List.getElem?_cons_succ] at e
      obtain ⟨d, ds', a, b⟩ := keysF_get e2 e
      exact ⟨d, ds', a, by rw [List.getElem?_cons_succ]; exact b⟩
section
variable {X : Cx} {pins : List (Addr × Obj)} {σ : L2.St}
structure SJ (X : Cx) (pins : List (Addr × Obj)) (σ : L2.St) (Sh : AS) (H2 : Hp) (s2 : Shared) (ks : List D) (lst kl n1 i : Nat) (Hi : Hp) (Shi : AS) (kvs : List V) (s' : Shared) : Prop where
  inv : Inv X pins σ Hi s'
  un : Un (frs X.stack) [] H2 Hi s2.heap s'.heap
  hl : Hi lst = some (.ext fun h => h.get? lst = some (VdS.LO #[] n1))
  hk : Hi kl = some (.lst kvs)
  len : kvs.length = i
  stp : Stp Sh emp H2 Shi (fun b => b = kl) Hi
  reps : Reps X.K Shi Hi kvs (ks.take i) emp
  nl : ¬ Shi lst
theorem Reps.each {K : PySem.W.Frag} {Sh : AS} {H : Hp} {kz : List PyData} : ∀ {vs ds}, Reps K Sh H vs ds emp → ∀ t ∈ vs.zip (ds.zip kz), Rep K Sh H t.1 t.2.1 emp := fun {vs ds} h t ht => by
  obtain ⟨i, hi, e⟩ := List.mem_iff_getElem.mp ht
  rw [List.length_zip, List.length_zip] at hi
  have e2 : t = (vs[i]'(by omega), (ds[i]'(by omega), kz[i]'(by omega))) := by rw [← e]; simp
  obtain ⟨v, hv, r⟩ := h.get (i := i) (d := ds[i]'(by omega)) (List.getElem?_eq_getElem _)
  rw [List.getElem?_eq_getElem (by omega)] at hv
  rw [e2]
  cases hv
  exact r
theorem Reps.back {K : PySem.W.Frag} {Sh : AS} {H : Hp} : ∀ {l : List (V × (D × PyData))}, (∀ t ∈ l, Rep K Sh H t.1 t.2.1 emp) → Reps K Sh H (l.map fun t => t.1) (l.map fun t => t.2.1) emp
  | [], _ => .nil
  | t :: l, h => .cons (G1 := emp) (G2 := emp) (h t List.mem_cons_self) (Reps.back fun u hu => h u (List.mem_cons_of_mem _ hu)) .nil .nil .nil_l
theorem each_vals : ∀ {vs : List V} {us : List Value} {xs : List (D × PyData)}, Vals vs us → vs.length = xs.length → EachIs (fun (u : Value) (t : V × (D × PyData)) => RelV t.1 u) us (vs.zip xs)
  | [], [], _, .nil, _ => .nil
  | v :: vs, u :: us, x :: xs, .cons r t, h => .cons r (each_vals t (by simpa using h))
  | _ :: _, _ :: _, [], .cons _ _, h => by simp at h
theorem vals_each : ∀ {us : List Value} {l : List (V × (D × PyData))}, EachIs (fun (u : Value) (t : V × (D × PyData)) => RelV t.1 u) us l → Vals (l.map fun t => t.1) us
  | [], [], .nil => .nil
  | _ :: _, _ :: _, .cons r t => .cons r (vals_each t)
theorem sorted_eq {vs : List V} {xs : List D} {kz : List PyData} (h1 : vs.length = xs.length) (h2 : kz.length = xs.length) : ((vs.zip (xs.zip kz)).mergeSort (dataLe false fun t => t.2.2)).map (fun t => t.2.1) = sortBy xs kz := by
  unfold sortBy
  have e := List.map_mergeSort (r := dataLe false fun t : V × (D × PyData) => t.2.2) (s := dataLe false fun p : D × PyData => p.2) (f := fun t : V × (D × PyData) => t.2) (l := vs.zip (xs.zip kz)) (fun a _ b _ => rfl)
  have e2 : (vs.zip (xs.zip kz)).map (fun t => t.2) = xs.zip kz := by
    have := List.map_snd_zip (l₁ := vs) (l₂ := xs.zip kz) (by rw [List.length_zip]; omega)
    exact this
  rw [e2] at e
  rw [← e, List.map_map]
  rfl
end
end Vd
end
section
namespace Vd
open PySem PySem.Spec PyProof.Rows L2 LamX PySem.W
section
variable {X : Cx} {pins : List (Addr × Obj)} {σ : L2.St}
theorem turn_wd {K : PySem.W.Frag} {Sh F L Shi KL : AS} {H2 Hi : Hp} {ds : Ds} {v : Nat} {x : D} {v0 : V} {G0 : AS} (w : Wd K Sh F L H2 σ ds) (a : Stp Sh emp H2 Shi KL Hi) (hv : v < σ.length) (rx : Rep K Sh H2 v0 x G0) (g0 : Sub G0 (un L F)) : Wd K Shi emp (un L F) Hi (σ.set v (some v0)) (lamDs ds v x) := by
  have wt : Wf Sh emp H2 := w.wf.sub .nil
  have wl : Wf Sh (un L F) H2 := ⟨Dj.un_l w.wl.dj w.wf.dj, fun b z => z.elim (w.wl.lf b) (w.wf.lf b), w.wf.ls⟩
  have nx := wl.next (.nil_r) a
  have ln : ds.length = σ.length := w.sl.len
  have ll : (lamDs ds v x).length = (σ.set v (some v0)).length := by unfold lamDs; rw [List.length_set, List.length_set, List.length_map, ln]
  have at_ : ∀ (i : Nat) (z : Slot), (lamDs ds v x)[i]? = some z → (i = v ∧ z = .lk x) ∨ (i ≠ v ∧ ∃ y, ds[i]? = some y ∧ z = lkS y) := fun i z e => by
    unfold lamDs at e
    rcases get_set e with h | ⟨n, h⟩
    · exact .inl h
    · rw [List.getElem?_map] at h
      cases q : ds[i]? with
      | none => rw [q] at h; cases h
      | some y => rw [q] at h; exact .inr ⟨n, y, rfl, (Option.some.inj h).symm⟩
  refine ⟨⟨.nil_l, fun _ z => z.elim, a.wf.ls⟩, nx.1, .nil_r, ⟨ll, fun _ => emp, fun i d e => ?_, fun _ => .nil, fun _ _ _ => .nil_l⟩, fun i d e => ?_, a.kp.tab w.tabs⟩
  · rcases at_ i _ e with ⟨_, z⟩ | ⟨_, y, _, z⟩
    · cases z
    · cases y <;> cases z
  · rcases at_ i _ e with ⟨rfl, z⟩ | ⟨n, y, ey, z⟩
    · cases z
      exact ⟨v0, by rw [List.getElem?_set_self hv], (rx.stp a wt .nil_r).mono g0⟩
    · have put : ∀ u, σ[i]? = some (some u) → (σ.set v (some v0))[i]? = some (some u) := fun u h => by rw [List.getElem?_set_ne (fun q => n q.symm)]; exact h
      cases y with
      | no => cases z
      | own d' =>
        cases z
        obtain ⟨_, g, h1, h2, _⟩ := w.sl
        obtain ⟨u, q, r⟩ := h1 i d ey
        exact ⟨u, put u q, (r.stp a wt .nil_r).mono ((h2 i).trans .r)⟩
      | lk d' =>
        cases z
        obtain ⟨u, q, r⟩ := w.lk i d ey
        exact ⟨u, put u q, (r.stp a wt .nil_r).mono .l⟩
theorem un_emp (F : AS) : un F emp = F := funext fun b => propext ⟨fun h => h.elim id fun z => z.elim, .inl⟩
theorem turns_ok {k v n1 lst kl : Nat} {x qn : Str} {f c' : Addr} {pm ctv : Value} {params : Arguments} {body : Expr} {scope : Scope} {elt : ES} {Sh F L : AS} {H2 : Hp} {s2 : Shared} {ds : Ds} {xs ks : List D} {vsV : List V} {vs : List Value}
    (hq : X.env.qual ++ "<lambda>" = qn) (I : Inv X pins σ H2 s2) (LP : LamP X.env.scope scope x) (hN : ∀ i, X.N[i]? = some x → i = v) (hx : X.N[v]? = some x)
    (hf : s2.heap.get? f = some (PySem.W.kla_obj "<lambda>" qn params body scope (cloFrom X.env.cells scope.names []) pm c' ctv)) (hfn : H2 f = none) (hfr : f ∉ frs X.stack) (hco : H2 c' = some (CodeO c' qn))
    (hbind : ∀ u0, bindArgs (PySem.W.kla_fn "<lambda>" qn params body scope (cloFrom X.env.cells scope.names []) pm (.ref c') ctv) ⟨[u0], []⟩ = pure [(x, u0)])
    (hr : Room (k + 1) X.A) (hbody : ∀ (A : Around) (outer : List Env) (s : Shared) (H : Hp), Room k (A.deeper (lamEnv X scope s.heap.objs.size f c')) → PE (lamCx X A outer s H (fun _ _ _ => False) scope f c') body (tE X.K elt))
    (w : Wd X.K Sh F L H2 σ ds) (rxs : Reps X.K Sh H2 vsV xs emp) (rv : Vals vsV vs) (ek : keysF v elt ds xs = .ok ks) (lz : ks.length ≤ sizeLine) (nek : kl ≠ lst) (n2 : H2 lst = none) :
    VdS.Turns X.prog X.w X.A.in1.in1 (.ref f) vs (pys ks) lst kl (fun n1 i s' => ∃ Hi Shi kvs, SJ X pins σ Sh H2 s2 ks lst kl n1 i Hi Shi kvs s')
      (fun n1 i u s' => ∃ Hi Shi kvs kv d, SJ X pins σ Sh H2 s2 ks lst kl n1 i Hi Shi kvs s' ∧ RelV kv u ∧ ks[i]? = some d ∧ Rep X.K Shi Hi kv d emp) where
  call := fun n1 i u s' hu ⟨Hi, Shi, kvs, J⟩ => by
    have i1 : i < vs.length := (List.getElem?_eq_some_iff.mp hu).1
    have lvs : vsV.length = vs.length := rv.length
    have lxs : vsV.length = xs.length := rxs.length
    have ex : xs[i]? = some (xs[i]'(by omega)) := List.getElem?_eq_getElem _
    obtain ⟨v0, hv0, r0⟩ := rxs.get ex
    obtain ⟨u', hu', ru⟩ := rv.get hv0
    rw [hu] at hu'
    cases hu'
    obtain ⟨d, ds', ed, eks⟩ := keysF_get ek ex
    have hv : v < σ.length := by
      have := I.len
      have := (List.getElem?_eq_some_iff.mp hx).1
      omega
    have wd := turn_wd w J.stp hv r0 .nil
    have kpc : Hi c' = some (CodeO c' qn) := J.stp.kp.kept _ _ hco (fun z => z.elim) codeO_ne
    have ht : tE X.K elt (σ.set v (some v0)) Hi fun kv H' => ∃ Sh', Stp Shi emp Hi Sh' emp H' ∧ Rep X.K Sh' H' kv d.frz emp := ⟨Shi, emp, un L F, lamDs ds v _, d, ds', wd, ed, fun kv H' Sh' G F' p => by
      obtain ⟨Sh2, st, rp, _, _⟩ := p.freeze wd
      exact ⟨Sh2, st.weak .nil, rp⟩⟩
    refine wpAny_mono (lam_turn hq I LP hN hx hf hfn hfr (hbind u) hr hbody J.inv J.un kpc ru ht) (fun u2 s3 h => ?_) fun _ _ e => e
    obtain ⟨kv, H', os, bare, un', hok, rk, Sh', st, rp⟩ := h
    obtain ⟨kv2, H3, I3, rk2, e1, e2⟩ := J.inv.after (Q := fun a b => a = kv ∧ b = H') ⟨kv, H', os, bare, un', hok, rk, rfl, rfl⟩
    subst e1 e2
    obtain ⟨stb, _⟩ := st.beside (T := fun b => b = kl) J.stp.wf .nil_r
    rw [un_emp] at stb
    refine ⟨H3, Sh', kvs, kv2, d.frz, ⟨I3, J.un.trans un', st.kp.kept _ _ J.hl (fun z => z.elim), st.kp.kept _ _ J.hk (fun z => z.elim), J.len, J.stp.trans stb, J.reps.stp st ⟨.nil_l, fun _ z => z.elim, J.stp.wf.ls⟩ .nil_l, fun z => ?_⟩, rk2, eks, rp⟩
    rcases st.shn _ z with q | q | q
    · exact J.nl q
    · exact q.elim
    · rw [J.hl] at q; cases q
  look := fun n1 i u s' ⟨Hi, Shi, kvs, kv, d, J, _⟩ => by
    obtain ⟨_, its, n, r, e⟩ := J.inv.hok _ _ J.hk
    exact ⟨its.toArray, n, e, by rw [List.size_toArray, ← r.length, J.len]⟩
  push := fun n1 i u s' ks' n hi ⟨Hi, Shi, kvs, kv, d, J, ru, ed, rd⟩ at_ => by
    obtain ⟨lz1, its, n0, r, e⟩ := J.inv.hok _ _ J.hk
    rw [at_] at e
    have e1 : ks' = its.toArray := by cases e; rfl
    subst e1
    obtain ⟨c, hc⟩ : ∃ c, (s'.heap.update kl (Obj.mapSeq (·.push u))).get? kl = some (VdS.LO (its.toArray.push u) c) := ⟨_, get?_update_seq at_ (·.push u)⟩
    have same := Heap.SameBut.update s'.heap kl (Obj.mapSeq (·.push u))
    have kp : ∀ b o, b ≠ kl → s'.heap.get? b = some o → (s'.heap.update kl (Obj.mapSeq (·.push u))).get? b = some o := fun b o nb q => (same.2 b nb).trans q
    have mu : Mut (Hi kl) := by rw [J.hk]; exact True.intro
    have ll : (kvs ++ [kv]).length ≤ sizeLine := by
      have : i < ks.length := (List.getElem?_eq_some_iff.mp ed).1
      rw [List.length_append, J.len, List.length_singleton]
      omega
    have new : ObjOk X.prog X.w (upd Hi kl (.lst (kvs ++ [kv]))) (s'.heap.update kl (Obj.mapSeq (·.push u))) kl (.lst (kvs ++ [kv])) :=
      ⟨ll, its ++ [u], c, r.append (.cons ru .nil), by rw [hc]; simp [seqObj]⟩
    have I2 := J.inv.write (t' := s'.toks) mu (.inl rfl) kp ⟨_, hc⟩ new
    have m := J.stp.wf.lf
    have st := Stp.mut (zs := kvs ++ [kv]) J.stp.wf (p := kl) rfl J.hk
    have kd : Kp Shi (fun b => b = kl) Hi (upd Hi kl (.lst (kvs ++ [kv]))) := Kp.mut J.hk
    have dj : Dj (fun b => b = kl) Shi := J.stp.wf.dj
    refine ⟨upd Hi kl (.lst (kvs ++ [kv])), Shi, kvs ++ [kv], ⟨I2, J.un.trans (.write mu (.inl rfl) kp ⟨_, hc⟩), by rw [upd_ne (fun z => nek z.symm)]; exact J.hl, upd_same, by rw [List.length_append, J.len]; rfl, J.stp.trans st, ?_, J.nl⟩⟩
    have tk : ks.take (i + 1) = ks.take i ++ [d] := by rw [List.take_add_one, ed]; rfl
    rw [tk]
    exact (Reps.app (J.reps.keep kd dj .refl .nil_l) (Reps.one (rd.keep kd dj .refl .nil_l)) .nil_l).mono (.un .nil .nil)
  last := fun n1 s' ⟨Hi, Shi, kvs, J⟩ => by
    obtain ⟨h0, _, _⟩ := J.inv.hok _ _ J.hl
    obtain ⟨_, its, n, r, e⟩ := J.inv.hok _ _ J.hk
    refine ⟨h0, its.toArray, n, e, ?_⟩
    have lks : ks.length = vs.length := by rw [keysF_len ek, ← rxs.length, rv.length]
    have J2 := J.reps
    rw [List.take_of_length_le (by omega)] at J2
    have go : ∀ {kvs : List V} {its : List Value} {ks : List D}, Reps X.K Shi Hi kvs ks emp → Vals kvs its → EachIs (fun v k => ∃ as, Reads s'.heap v k as) its (pys ks) := by
      intro kvs
      induction kvs with
      | nil => intro its ks a b; cases a; cases b; exact .nil
      | cons k kvs ih =>
        intro its ks a b
        cases a with
        | cons a1 a2 a3 a4 a5 =>
          cases b with
          | cons b1 b2 => exact .cons (Dp.reads J.inv _ _ _ a1.dp b1) (ih (a2.mono a4) b2)
    exact go J2 r
end
end Vd
end
section
namespace Vd
open PySem PySem.Spec PyProof.Rows L2 LamX PySem.W
section
variable {X : Cx}
theorem zip3 {vs : List V} {xs : List D} {kz : List PyData} (h1 : vs.length = xs.length) (h2 : kz.length = xs.length) : (vs.zip (xs.zip kz)).map (fun t => t.2.2) = kz := by
  have m1 := List.map_snd_zip (l₁ := vs) (l₂ := xs.zip kz) (by rw [List.length_zip]; omega)
  have m2 := List.map_snd_zip (l₁ := xs) (l₂ := kz) (by omega)
  conv => rhs; rw [← m2, ← m1]
  rw [List.map_map]
  rfl
theorem e_sortK {a : Expr} {oa : Opd} {v k : Nat} {x qn : Str} {elt : ES} {params : Arguments} {body : Expr} {scope : Scope} {lpos p pos kpos : Pos} {c P : Addr} (hr : Room (k + 1) X.A) (hm : X.mg "sorted" = none) (ha : EO X a oa)
    (hx : X.N[v]? = some x) (hN : ∀ i, X.N[i]? = some x → i = v) (hq : X.env.qual ++ "<lambda>" = qn) (TB : TabB X.base X.mg c P) (hcode : X.env.code = .ref c) (hmT : (P, qn) ∈ tabT) (hu : ∀ p ∈ tabT, p.1 = P → p.2 = qn)
    (LP : LamP X.env.scope scope x) (hdef : defaultsOf params X.env = ([], [])) (hbind : ∀ (q : Str) (cl : List (Str × Addr)) (pm cv ctv u : Value), bindArgs (PySem.W.kla_fn "<lambda>" q params body scope cl pm cv ctv) ⟨[u], []⟩ = pure [(x, u)])
    (hbody : ∀ (A : Around) (outer : List Env) (s : Shared) (H : Hp) (f c' : Addr), Room k (A.deeper (lamEnv X scope s.heap.objs.size f c')) → PE (lamCx X A outer s H (fun _ _ _ => False) scope f c') body (tE X.K elt))
    (hg : Gl X "sorted" := by rfl) (na : starEach [a] X.env = (false, eval a X.env) :: starEach [] X.env := by rfl) :
    PE X (.Call (.Name "sorted" p) [a] [⟨some "key", .Lambda params body scope lpos, kpos⟩] pos) (tE X.K (rSortK v elt oa)) := by
  obtain ⟨ta, a1, a2, a3⟩ := ha
  refine ⟨fun pins s σ H Q I h => ?_⟩
  have h2 := a2 [] (sortF v elt) σ H Q (tV_nil h)
  refine wpAny_Call_Name_kw (ld_blt I hg hm (by rfl) ?_ (by decide) (by decide))
  refine PyProof.Rows.callWith_kw ?_ (by rw [na]; rfl) (by rw [na]; rfl) (by rfl) (by rfl)
  rw [na]
  show wpAny _ _ (spliced ((false, eval a X.env) :: backTo pos (starEach [] X.env))) _ _ s
  refine Calls.spliced_cons (thn (a1.run pins s σ H _ I h2) fun u s1 ⟨x1, H1, I1, r1, q1⟩ => Calls.spliced_nil ?_)
  obtain ⟨e1, Sh, F, L, ds, d, ds', w, vw, ed, q⟩ := q1
  have rx1 := vw (x1, e1) (by simp)
  unfold sortF at ed
  split at ed
  · rename_i o xs
    split at ed
    · rename_i cond
      rw [Bool.and_eq_true, decide_eq_true_eq] at cond
      obtain ⟨ks, ek, ed⟩ := Res.of_bind ed
      split at ed
      · rename_i srt
        cases ed
        obtain ⟨l, vsV, rfl, lx, rxs⟩ := rx1.lst
        have rxs := rxs.ofFz (G := emp) cond.1
        cases r1
        refine wpAny_evalAll_cons (wpAny_bind (lam_new hq I1 TB hcode hmT hu w.tabs hdef (LP.has I1.ok) fun f c' pm ctv H2 s2 I2 made hf hfn hfr hco => wpAny_bind (wpAny_standAt (wpAny_pure (wpAny_evalAll_nil ?_)))))
        show wpAny _ _ (call (.builtin "sorted") [.ref l] [(Str.ofString "key", .ref f)]) _ _ s2
        have st1 : Stp Sh F H1 Sh F H2 := made.stp w.wf
        have w2 : Wd X.K Sh F L H2 σ ds := w.next (G := emp) (st1.weak (.un .nil .refl)) .refl (w.sl.stp (made.stp (w.wf.sub .nil)) (w.wf.sub .nil) .nil_r)
        have rxs2 : Reps X.K Sh H2 vsV xs emp := rxs.stp (made.stp (w.wf.sub .nil)) (w.wf.sub .nil) .nil_l
        have n2 : H2 (s2.heap.objs.size + 1) = none := I2.hok.fresh (Nat.le_succ _)
        have n3 : H2 (s2.heap.objs.size + 3) = none := I2.hok.fresh (by show s2.heap.objs.size ≤ s2.heap.objs.size + 3; omega)
        have lx2 : LX X.K H2 l vsV := lx.elim (fun z => .inl ((made.kp (Sh := Sh) (F := emp)).rd (fun y => y.elim) z)) .inr
        obtain ⟨its, rv, pl, lz⟩ := I2.list lx2.sq
        have ll : vsV.length = xs.length := rxs2.length
        have lks : ks.length = xs.length := keysF_len ek
        obtain ⟨al, so, dp⟩ := srtB_ok srt
        have pl2 : (pys ks).length = ks.length := by rw [pys_eq, List.length_map]
        have tn := turns_ok (n1 := 0) (lst := s2.heap.objs.size + 1) (kl := s2.heap.objs.size + 3) (pins := pins) hq I2 LP hN hx hf hfn hfr hco (fun u0 => hbind _ _ _ _ _ u0) hr (fun A o s H => hbody A o s H f c') w2 rxs2 rv ek (by omega) (by omega) n2
        have nek : (s2.heap.objs.size + 3 : Nat) ≠ s2.heap.objs.size + 1 := by omega
        have wE : Wf Sh emp H2 := w2.wf.sub .nil
        refine VdS.sorted_ok (vs := its) (kz := pys ks) pl.isList (by rw [← rv.length]; exact lz) tn (by rw [pl2, lks, ← ll, rv.length]) al so (fun d hd => ?_) (fun n1 c2 c3 => ?_) fun n1 s' ks' n out ⟨Hi, Shi, kvs, J⟩ at_ ko => ?_
        · have := dp d hd
          have := hr.un
          show X.A.units + 1 + 1 + d.depth < cLine
          omega
        · have c0 := copyHeap_at s2.heap its
          have c1 : ∃ n', (VdS.emptied (copyHeap s2.heap its) (s2.heap.objs.size + 1)).get? (s2.heap.objs.size + 1) = some (VdS.LO #[] n') := ⟨_, get?_update_seq c0 fun _ => #[]⟩
          obtain ⟨n', c1⟩ := c1
          have g1 : ((VdS.emptied (copyHeap s2.heap its) (s2.heap.objs.size + 1)).push (seqObj "tuple" its.toArray 0)).get? (s2.heap.objs.size + 1) = some (VdS.LO #[] n') := Heap.get?_push_of_some _ c1
          have e' : n' = n1 := by
            have z : (VdS.askH s2.heap its).get? (s2.heap.objs.size + 1) = some (VdS.LO #[] n') := Heap.get?_push_of_some _ g1
            rw [c2] at z
            cases z; rfl
          subst e'
          have same := Heap.SameBut.update (copyHeap s2.heap its) (s2.heap.objs.size + 1) (Obj.mapSeq fun _ => (#[] : Array Value))
          have up1 : ∀ b o, s2.heap.get? b = some o → ((VdS.emptied (copyHeap s2.heap its) (s2.heap.objs.size + 1)).push (seqObj "tuple" its.toArray 0)).get? b = some o := fun b o e =>
            Heap.get?_push_of_some _ ((same.2 b (Nat.ne_of_lt (Nat.lt_succ_of_lt (Heap.lt_size e)))).trans (copyHeap_old e))
          have up2 : ∀ b o, ((VdS.emptied (copyHeap s2.heap its) (s2.heap.objs.size + 1)).push (seqObj "tuple" its.toArray 0)).get? b = some o → (VdS.askH s2.heap its).get? b = some o := fun b o e => Heap.get?_push_of_some _ e
          have sz1 : ((VdS.emptied (copyHeap s2.heap its) (s2.heap.objs.size + 1)).push (seqObj "tuple" its.toArray 0)).objs.size = s2.heap.objs.size + 3 := by
            rw [size_push', Heap.size_update]
            unfold copyHeap
            simp [Heap.size_update, size_push']
          have I3 := I2.laid (a := s2.heap.objs.size + 1) (o := .ext fun h => h.get? (s2.heap.objs.size + 1) = some (VdS.LO #[] n')) (t' := s2.toks) up1 (Nat.le_succ _) ⟨g1, ⟨_, g1⟩, fun h1 h2 a b => b _ a⟩
          have I4 := I3.laid (a := s2.heap.objs.size + 3) (o := .lst []) (t' := s2.toks) up2 (Nat.le_of_eq sz1) ⟨Nat.zero_le _, [], 0, .nil, c3⟩
          have n3' : upd H2 (s2.heap.objs.size + 1) (.ext fun h => h.get? (s2.heap.objs.size + 1) = some (VdS.LO #[] n')) (s2.heap.objs.size + 3) = none := by rw [upd_ne nek]; exact n3
          have nw := (Nw.upd (o := .ext fun h => h.get? (s2.heap.objs.size + 1) = some (VdS.LO #[] n')) n2).trans (Nw.upd (o := .lst []) n3')
          have st := (nw.sub (G' := fun b => b = s2.heap.objs.size + 3) .r).stp wE
          rw [un_emp] at st
          exact ⟨_, Sh, [], I4, (Un.laid up1 (Nat.le_succ _) n2).trans (Un.laid up2 (Nat.le_of_eq sz1) n3'), by rw [upd_ne nek.symm, upd_same], upd_same, rfl, st, .nil, fun z => wE.ls _ z n2⟩
        · have I5 := J.inv.write (x := s2.heap.objs.size + 3) (o := .lst []) (t' := s'.toks) (h' := VdS.emptied s'.heap (s2.heap.objs.size + 3)) (by rw [J.hk]; exact True.intro) (.inl rfl)
            (fun b o nb e => ((Heap.SameBut.update s'.heap (s2.heap.objs.size + 3) (Obj.mapSeq fun _ => (#[] : Array Value))).2 b nb).trans e) ⟨_, get?_update_seq at_ fun _ => #[]⟩ ⟨Nat.zero_le _, [], _, .nil, get?_update_seq at_ fun _ => #[]⟩
          have hl5 : upd Hi (s2.heap.objs.size + 3) (.lst []) (s2.heap.objs.size + 1) = some (.ext fun h => h.get? (s2.heap.objs.size + 1) = some (VdS.LO #[] n1)) := by rw [upd_ne nek.symm]; exact J.hl
          obtain ⟨raw5, _, _⟩ := I5.hok _ _ hl5
          have each := keyedOut_each (β := V × (D × PyData)) (R := fun u t => RelV t.1 u) (bs := vsV.zip (xs.zip (pys ks))) (fun t => t.2.2) (by
            have e := zip3 (vs := vsV) (xs := xs) (kz := pys ks) (by omega) (by omega)
            rw [e]
            exact ko) (each_vals rv (by rw [List.length_zip]; omega))
          have rvo := vals_each each
          have lo : out.length = its.length := ko.length (by rw [pl2, lks, ← ll, rv.length])
          have same6 := Heap.SameBut.update (VdS.emptied s'.heap (s2.heap.objs.size + 3)) (s2.heap.objs.size + 1) (Obj.mapSeq fun _ => out.toArray)
          obtain ⟨c6, h6⟩ : ∃ c6, (VdS.filled (VdS.emptied s'.heap (s2.heap.objs.size + 3)) (s2.heap.objs.size + 1) out).get? (s2.heap.objs.size + 1) = some (VdS.LO out.toArray c6) := ⟨_, get?_update_seq raw5 fun _ => out.toArray⟩
          generalize hbs : (vsV.zip (xs.zip (pys ks))).mergeSort (dataLe false fun t => t.2.2) = bs at each rvo
          have I6 := I5.write (x := s2.heap.objs.size + 1) (o := .lst (bs.map fun t => t.1)) (t' := s'.toks) (h' := VdS.filled (VdS.emptied s'.heap (s2.heap.objs.size + 3)) (s2.heap.objs.size + 1) out) (by rw [hl5]; exact True.intro) (.inl rfl)
            (fun b o nb e => (same6.2 b nb).trans e) ⟨_, h6⟩ ⟨by rw [rvo.length, lo, ← rv.length]; exact lz, out, c6, rvo, h6⟩
          have up : ∀ b o, H2 b = some o → upd (upd Hi (s2.heap.objs.size + 3) (.lst [])) (s2.heap.objs.size + 1) (.lst (bs.map fun t => t.1)) b = Hi b := fun b o e => by
            rw [upd_ne (ne_of_none e n2), upd_ne (ne_of_none e n3)]
          have kp6 : Kp Sh emp H2 (upd (upd Hi (s2.heap.objs.size + 3) (.lst [])) (s2.heap.objs.size + 1) (.lst (bs.map fun t => t.1))) := by
            refine ⟨fun b o e n t => ?_, fun b e n => ?_, fun b ys e => ?_, fun b o u e => ?_, fun t p hp => ?_⟩
            · rw [up b o e]; exact J.stp.kp.kept0 b o e n t
            · cases qb : H2 b with
              | none => exact absurd qb e
              | some o => rw [up b o qb]; exact J.stp.kp.lv b e n
            · rw [up b _ e]; exact J.stp.kp.tk b ys e
            · rw [up b _ e]; exact J.stp.kp.fk b o u e
            · obtain ⟨ps, a1, a2, a3⟩ := J.stp.kp.tab t p hp
              have b1 : p.1 ≠ s2.heap.objs.size + 1 := ne_of a1 J.hl (fun z => nomatch z)
              have b2 : p.1 ≠ s2.heap.objs.size + 3 := ne_of a1 J.hk (fun z => nomatch z)
              refine ⟨ps, by rw [upd_ne b1, upd_ne b2]; exact a1, a2, fun po cv hc => ?_⟩
              obtain ⟨c, e1, e2⟩ := a3 po cv hc
              have d2 : c ≠ s2.heap.objs.size + 3 := ne_of e2 J.hk (fun z => by unfold CodeO at z; cases z)
              have d1 : c ≠ s2.heap.objs.size + 1 := fun z => by
                subst z
                obtain ⟨raw, _, _⟩ := J.inv.hok _ _ J.hl
                obtain ⟨⟨oc, fs, t, g1, g2, _⟩, _, _⟩ := J.inv.hok _ _ e2
                rw [raw] at g1
                cases g1
                cases g2
              exact ⟨c, e1, by rw [upd_ne d1, upd_ne d2]; exact e2⟩
          have wf6 : Wf Shi (fun b => b = s2.heap.objs.size + 1) (upd (upd Hi (s2.heap.objs.size + 3) (.lst [])) (s2.heap.objs.size + 1) (.lst (bs.map fun t => t.1))) := by
            refine ⟨fun b z y => ?_, fun b z => ?_, fun b z => ?_⟩
            · have z : b = s2.heap.objs.size + 1 := z
              subst z
              exact J.nl y
            · have z : b = s2.heap.objs.size + 1 := z
              rw [z, upd_same]; exact fun y => nomatch y
            · by_cases y : b = s2.heap.objs.size + 1
              · rw [y, upd_same]; exact fun y => nomatch y
              · rw [upd_ne y]
                by_cases y2 : b = s2.heap.objs.size + 3
                · exact absurd z fun z => J.stp.wf.dj b y2 z
                · rw [upd_ne y2]; exact J.stp.wf.ls b z
          have st6 : Stp Sh emp H2 Shi (fun b => b = s2.heap.objs.size + 1) (upd (upd Hi (s2.heap.objs.size + 3) (.lst [])) (s2.heap.objs.size + 1) (.lst (bs.map fun t => t.1))) :=
            ⟨kp6, J.stp.sh, J.stp.shn, fun b z => .inr (by rw [show b = s2.heap.objs.size + 1 from z]; exact n2), wf6⟩
          obtain ⟨stb, djb⟩ := st6.beside (T := F) w2.wf .nil_r
          rw [un_emp] at stb
          have stf := st1.trans stb
          have items : ∀ t ∈ bs, Rep X.K Sh H2 t.1 t.2.1 emp := fun t ht => Reps.each rxs2 t (by rw [← hbs] at ht; exact (List.mem_mergeSort).mp ht)
          have rp : Reps X.K Shi (upd (upd Hi (s2.heap.objs.size + 3) (.lst [])) (s2.heap.objs.size + 1) (.lst (bs.map fun t => t.1))) (bs.map fun t => t.1) (bs.map fun t => t.2.1) emp := (Reps.back items).stp st6 wE .nil_r
          have es : bs.map (fun t => t.2.1) = sortBy xs (pys ks) := by rw [← hbs]; exact sorted_eq ll (by omega)
          rw [es] at rp
          refine ⟨.ref (s2.heap.objs.size + 1), _, I6, rfl, q _ _ Shi (fun b => b = s2.heap.objs.size + 1) F ⟨stf.weak (.un .r .l), djb.symm, .lstO upd_same rfl .nil (fun z => z) rp, w2.sl.stp st6 wE .nil_r, .refl⟩⟩
      · cases ed
    · cases ed
  · cases ed
end
end Vd
end
section
namespace Vd
open PySem L2
section
variable {Pr : Program} {w : World} {K : PySem.W.Frag} {mg : Str → Option Value} {base : Heap}
theorem fn_core {N : List Str} {ms : List Bool} {body : SS} {vs : List V} {H : Hp} {Q : VK} {E : XK} (h : spF K ms (fnRun N.length ms body) vs H Q E) : tS K (prot ms) body { nx := fun _ H' => Q .non H', rt := Q } (L2.start N vs) H := by
  obtain ⟨Sh, F, L, args, z, os, hl, wd, e, q⟩ := h
  unfold fnRun at e
  split at e
  · rename_i hargs
    obtain ⟨⟨fl, ds'⟩, e1, e2⟩ := Res.of_bind e
    have hsl : (slotsIn ms args).length = ms.length := slotsIn_len hargs
    have hst : L2.start N vs = vs.map some ++ List.replicate (N.length - ms.length) none := by unfold L2.start; rw [hl]
    rw [hst]
    have wd' : Wd K Sh F L H (vs.map some ++ List.replicate (N.length - ms.length) none) (slotsIn ms args ++ List.replicate (N.length - ms.length) .no) := by
      refine ⟨wd.wf, wd.wl, wd.dj, wd.sl.more, fun i d e => ?_, wd.tabs⟩
      by_cases hi : i < (slotsIn ms args).length
      · rw [List.getElem?_append_left hi] at e
        obtain ⟨v, q, r⟩ := wd.lk i d e
        exact ⟨v, by rw [List.getElem?_append_left (by rw [List.length_map]; omega)]; exact q, r⟩
      · rw [List.getElem?_append_right (by omega), List.getElem?_replicate] at e
        split at e <;> cases e
    have agr : ∀ {σ' : St}, Ag (prot ms) (vs.map some ++ List.replicate (N.length - ms.length) none) σ' → ∀ i : Nat, ms[i]? = some true → σ'[i]? = (vs.map some)[i]? := fun {σ'} ag i h => by
      have hi : i < ms.length := (List.getElem?_eq_some_iff.mp h).1
      rw [ag.2 i (by unfold prot; rw [List.mem_filter]; exact ⟨List.mem_range.mpr hi, by simp [List.getD, h]⟩), List.getElem?_append_left (by rw [List.length_map]; omega)]
    refine ⟨Sh, F, L, _, fl, ds', wd', e1, ?_⟩
    cases fl with
    | nx =>
      obtain ⟨os', e3, e4⟩ := Res.of_bind e2
      cases e4
      exact fun σ' H' Sh' F' p => q .non H' Sh' emp F' (p.stp.weak (.un .nil .refl)) .nil_l .non (outs_ok e3 p.sl hl (agr p.ag))
    | rt d =>
      obtain ⟨os', e3, e4⟩ := Res.of_bind e2
      cases e4
      exact fun σ' v H' Sh' G F' p => q v H' Sh' G F' p.stp p.dj p.rep (outs_ok e3 p.sl hl (agr p.ag))
    | br => cases e2
    | ct => cases e2
  · cases e
theorem fn_okL {x qual : Str} {st : Stmt} {f : Addr} {fd : FuncData} {N ps : List Str} {k : Nat} {ms : List Bool} {body : SS} {dvs : List V} {kws : List (Str × V)} (F : FunD K x qual (defArgs st) (defBody st) (defScope st) dvs kws f fd) (hf : f = He.fAd K (x, none)) (S : FnScope N ps (defScope st)) (hms : ms.length = ps.length)
    (hb : ∀ (A : Around) (outer : List Env) (s : Shared) (H : Hp) (E : XK), Room k (A.deeper (PyProof.Rows.envOfC qual (defScope st) s.heap.objs.size f (.ref (He.cT K (x, none)).1))) →
      PSs (cxOf CX0 Pr w K mg base N qual (defScope st) f (.ref (He.cT K (x, none)).1) A outer s H E).nox (defBody st) (tS K (prot ms) body)) : FnOk Pr w K mg base CX0 (k + 1) f fd ps (spF K ms (fnRun N.length ms body)) := by
  obtain ⟨oc, od, dV, kV, doc, pm, an, cdv, ct, osl, rfl, lk, hcd, _, _⟩ := F.ex
  obtain ⟨c, rfl⟩ := He.codeIn_ref hcd
  have ec : (He.cT K (x, none)).1 = c := by
    subst hf
    exact He.codeOf_eq lk rfl
  rw [ec] at hb
  refine fn_of lk hcd S (fun vs H Q E h => ?_) fun A outer s H vs Q E hr h => ⟨_, PSs.nox (hb A outer s H E hr), fn_core h⟩
  obtain ⟨Sh, F, L, args, z, os, hl, _⟩ := h
  rw [hl, hms]
theorem nd_ix {N : List Str} (h : N.Nodup) {v : Nat} {x : Str} (hx : N[v]? = some x) : ∀ i, N[i]? = some x → i = v := fun i hi => by
  obtain ⟨a, b⟩ := List.getElem?_eq_some_iff.mp hx
  obtain ⟨c, d⟩ := List.getElem?_eq_some_iff.mp hi
  have pw := List.pairwise_iff_getElem.mp h
  rcases Nat.lt_trichotomy i v with z | z | z
  · exact absurd (d.trans b.symm) (pw i v c a z)
  · exact z
  · exact absurd (b.trans d.symm) (pw v i a c z)
theorem ga_of {f : Addr} {x : Str} (e : mg x = some (.ref f)) (g : mg x = some (.ref (He.ga K x))) : f = He.fAd K (x, none) := by
  rw [e] at g
  cases g
  rfl
end
end Vd
end
section
namespace Vd
open PySem L2
def sForMv (i : Nat) (g : GS) (b : SS) : SS := fun ds => match ds[i]? with
  | some (.own (.lst true ys)) => loopF g b ys (ds.set i .no)
  | _ => .bad
section
variable {X : Cx} {P : List Nat}
theorem s_forMv {tg : Expr} {body : List Stmt} {x : Str} {i : Nat} {p pos : Pos} {g : GS} {b : SS} (hp : PassesOwn (model X.prog X.w) X.A X.env X.xe) (hc : X.calm = true) (hg : PG X tg (tG X.K P g)) (hb : PSs X body (tS X.K P b)) (hN : X.N[i]? = some x := by rfl)
    (hv : Vis X.env.scope x := by first | exact Or.inl rfl | exact Or.inr (Or.inl rfl) | exact Or.inr (Or.inr rfl)) (hd : (x == ("__debug__" : Str)) = false := by decide) (hcd : (x == ("__classdict__" : Str)) = false := by decide)
    (hs : ∀ v, foldedSetIterable (.Name x p) X.env v = pure v := by intro _; rfl) : PS X (.For tg (.Name x p) body [] pos) (tS X.K P (sForMv i g b)) := by
  refine (ps_for hp hc (pi_seq (pe_var hN hv hd hcd)) hg hb hs).imp fun D' σ H ⟨Sh, F, L, ds, fl, ds', w, e, k⟩ => ?_
  unfold sForMv at e
  split at e
  · rename_i ys q
    obtain ⟨v, g0, e', s, rp, out⟩ := w.sl.out q
    cases rp with
    | lstO h1 h2 h3 h4 h5 =>
    rename_i G a vs
    have lv : vs.length = ys.length := h5.length
    refine ⟨.ref a, e', .inl ⟨a, rfl, ⟨vs, .inl (.inl h1)⟩, ?_⟩⟩
    refine for_it (walk_list (K := X.K) (a := a) (xs := vs)) (fun j σ1 H2 => ∃ Sh1 F1 ds1 R, Stp Sh F H Sh1 (un (un (fun b => b = a) R) F1) H2 ∧ Sl X.K Sh1 H2 σ1 ds1 F1 ∧ LkS ds ds1 σ σ1 ∧ Ag P σ σ1 ∧ Dj (un (fun b => b = a) R) F1 ∧ Dj (fun b => b = a) R ∧
      H2 a = some (.lst vs) ∧ Reps X.K Sh1 H2 (vs.drop j) (ys.drop j) R ∧ loopF g b (ys.drop j) ds1 = .ok (fl, ds')) ?_ ?_ ?_ ?_
    · refine ⟨Sh, _, ds.set i .no, G, (Stp.refl w.wf).weak (.un (.un (fun b z => by rw [show b = a from z]; exact s a h2) (h3.trans s)) fun _ z => z.1), out .no (fun _ z => nomatch z), .of .set_no, .refl, ?_, ?_, h1, h5, e⟩
      · exact Dj.un_l (fun b z y => y.2 (by rw [show b = a from z]; exact h2)) fun b z y => y.2 (h3 b z)
      · exact fun b z y => h4 (by rw [← show b = a from z]; exact y)
    · rintro j σ1 H2 _ ⟨Sh1, F1, ds1, R, _, _, _, _, _, _, ha, _, _⟩
      exact .inl (.inl ha)
    · rintro j y σ1 H0 H2 hj ⟨Sh1, F1, ds1, R, st, sl, lk, ag, dj, dA, ha, ra, el⟩ ⟨rfl, hy⟩
      have ev : vs.drop j = y :: vs.drop (j + 1) := by
        obtain ⟨hlt, rfl⟩ := List.getElem?_eq_some_iff.mp hy
        exact List.drop_eq_getElem_cons hlt
      obtain ⟨d, ey⟩ : ∃ d, ys.drop j = d :: ys.drop (j + 1) := ⟨_, List.drop_eq_getElem_cons (by omega)⟩
      rw [ev, ey] at ra
      rw [ey] at el
      obtain ⟨ds2, e3, e4⟩ := Res.of_bind el
      obtain ⟨⟨f1, ds3⟩, e5, e6⟩ := Res.of_bind e4
      cases ra with
      | cons a1 a2 s1 s2 d12 =>
      rename_i G1 G2
      obtain ⟨wL, dL⟩ := w.wl.next w.dj st
      have wT : Wf Sh1 (un (fun b => b = a) G2) H2 := st.wf.sub (.un (Sub.trans .l .l) (s2.trans (Sub.trans .r .l)))
      have wG : Wf Sh1 (un G1 F1) H2 := st.wf.sub (.un (s1.trans (Sub.trans .r .l)) .r)
      have dT : Dj (un (fun b => b = a) G2) (un G1 F1) := Dj.un_l (Dj.un_r (dA.sub .refl s1) (dj.sub .l .refl)) (Dj.un_r (d12.symm) (dj.sub (s2.trans .r) .refl))
      have wx : Wf Sh1 (un L (un (fun b => b = a) G2)) H2 := ⟨Dj.un_l wL.dj wT.dj, fun b z => z.elim (wL.lf b) (wT.lf b), wL.ls⟩
      have dx : Dj (un L (un (fun b => b = a) G2)) (un G1 F1) := Dj.un_l (dL.sub .refl (.un (s1.trans (Sub.trans .r .l)) .r)) dT
      have lkx : Lk X.K Sh1 H2 σ1 ds1 (un L (un (fun b => b = a) G2)) := fun n z ez => by
        obtain ⟨q1, q2⟩ := lk n z ez
        obtain ⟨u, q3, r⟩ := w.lk n z q1
        exact ⟨u, q2.trans q3, (r.stp st w.wf w.dj).mono .l⟩
      have w1 : Wd X.K Sh1 (un G1 F1) (un L (un (fun b => b = a) G2)) H2 σ1 ds1 := ⟨wG, wx, dx, sl.mono .r, lkx, st.kp.tab w.tabs⟩
      have w0 : Wd X.K Sh1 F1 (un L (un (fun b => b = a) G2)) H2 σ1 ds1 := ⟨wG.sub .r, wx, dx.sub .refl .r, sl, lkx, st.kp.tab w.tabs⟩
      have na : ¬ un G1 F1 a := fun z => dT a (.inl rfl) z
      refine ⟨Sh1, G1, F1, un L (un (fun b => b = a) G2), ds1, d, ds2, ⟨w0, a1, dj.symm.sub .refl (s1.trans .r) |>.symm, wG.sub .l, (dx.sub .refl .l).symm⟩, e3, fun σ4 H4 Sh4 F4 p4 => ?_⟩
      refine ⟨Sh4, F4, un L (un (fun b => b = a) G2), ds2, f1, ds3, w1.nextS p4, e5, ?_⟩
      have whole : Stp Sh F H Sh1 (un (un (fun b => b = a) G2) (un G1 F1)) H2 := st.weak (.un (.un (Sub.trans .l .l) (s2.trans (Sub.trans .r .l))) (.un (s1.trans (Sub.trans .r .l)) .r))
      have go : ∀ σ6 H6 Sh6 F6, PostS X.K P Sh4 F4 H4 σ4 ds2 ds3 σ6 H6 Sh6 F6 → Stp Sh F H Sh6 (un (un (fun b => b = a) G2) F6) H6 ∧ Dj (un (fun b => b = a) G2) F6 ∧ PostS X.K P Sh1 (un G1 F1) H2 σ1 ds1 ds3 σ6 H6 Sh6 F6 := fun σ6 H6 Sh6 F6 p6 => by
        have p := p4.trans p6
        obtain ⟨stb, djb⟩ := p.stp.beside wT dT
        exact ⟨whole.trans stb, djb, p⟩
      cases f1 with
      | nx =>
        refine fun σ6 H6 Sh6 F6 p6 => ?_
        obtain ⟨stw, djw, p⟩ := go σ6 H6 Sh6 F6 p6
        exact ⟨Sh6, F6, ds3, G2, stw, p.sl, lk.trans p.lks, ag.trans p.ag, djw, dA.sub .refl s2, p.stp.kp.kept _ _ ha na, a2.stp p.stp wG (dT.sub .r .refl), e6⟩
      | ct =>
        refine fun σ6 H6 Sh6 F6 p6 => ?_
        obtain ⟨stw, djw, p⟩ := go σ6 H6 Sh6 F6 p6
        exact ⟨Sh6, F6, ds3, G2, stw, p.sl, lk.trans p.lks, ag.trans p.ag, djw, dA.sub .refl s2, p.stp.kp.kept _ _ ha na, a2.stp p.stp wG (dT.sub .r .refl), e6⟩
      | br =>
        cases e6
        refine fun σ6 H6 Sh6 F6 p6 => ?_
        obtain ⟨stw, djw, p⟩ := go σ6 H6 Sh6 F6 p6
        exact k _ _ _ _ ⟨stw.weak .r, p.sl, lk.trans p.lks, ag.trans p.ag⟩
      | rt d =>
        cases e6
        refine fun σ6 v6 H6 Sh6 G6 F6 p6 => ?_
        have p := p4.ret p6
        obtain ⟨stb, djb⟩ := p.stp.beside wT dT
        exact k _ _ _ _ _ _ ⟨(whole.trans stb).weak .r, p.dj, p.rep, p.sl, lk.trans p.lks, ag.trans p.ag⟩
    · rintro σ1 H2 ⟨Sh1, F1, ds1, R, st, sl, lk, ag, dj, dA, ha, ra, el⟩
      rw [lv, List.drop_length] at el
      cases el
      exact k _ _ _ _ ⟨st.weak .r, sl, lk, ag⟩
  · cases e
end
end Vd
end
section
namespace Vd
open PySem L2
def seen : Option Slot → Option D
  | some (.own d) => some d
  | some (.lk d) => some d
  | _ => none
def atomD : D → Bool
  | .tup _ => false
  | .lst _ _ => false
  | _ => true
def rCallB (C : CE) (f i j : Nat) : ES := fun ds => match seen ds[i]?, seen ds[j]? with
  | some a, some b => (C f [a.frz, b.frz]).bind fun q => if (atomD q.1 && q.2.isEmpty) = true then .ok (q.1, ds) else .bad
  | _, _ => .bad
section
variable {X : Cx} {K : PySem.W.Frag}
theorem seen_rep {Sh F L : AS} {H : Hp} {σ : St} {ds : Ds} {i : Nat} {d : D} (w : Wd K Sh F L H σ ds) (e : seen ds[i]? = some d) : ∃ v, σ[i]? = some (some v) ∧ Rep K (un Sh (un L F)) H v d.frz emp := by
  cases q : ds[i]? with
  | none => rw [q] at e; cases e
  | some y =>
    rw [q] at e
    cases y with
    | no => cases e
    | own d' =>
      cases e
      obtain ⟨_, g, h1, h2, _⟩ := w.sl
      obtain ⟨v, a, r⟩ := h1 i d q
      exact ⟨v, a, (Rep.frz (G := emp) r).shd fun b z => z.elim .inl fun z => .inr (.inr (h2 i b z))⟩
    | lk d' =>
      cases e
      obtain ⟨v, a, r⟩ := w.lk i d q
      exact ⟨v, a, (Rep.frz (G := emp) r).shd fun b z => z.elim .inl fun z => .inr (.inl z)⟩
theorem Rep.atom {Sh Sh' G M : AS} {H : Hp} {v : V} {d : D} (r : Rep K Sh H v d G) (h : atomD d = true) : Rep K Sh' H v d M := by
  cases r with
  | non => exact .non
  | bl b => exact .bl b
  | int b => exact .int b
  | str b => exact .str b
  | tup a b => cases h
  | lstK a b => cases h
  | lstS a b c => cases h
  | lstO a b c d e => cases h
theorem e_callB {C : CE} {f k i j : Nat} {x y z : Str} {p p1 p2 pos : Pos} (F : Callee X z [false, false] (C f) k) (hr : Room k X.A) (hN : X.N[i]? = some x := by rfl) (hM : X.N[j]? = some y := by rfl)
    (hv : Vis X.env.scope x := by first | exact Or.inl rfl | exact Or.inr (Or.inl rfl) | exact Or.inr (Or.inr rfl)) (hd : (x == ("__debug__" : Str)) = false := by decide) (hcd : (x == ("__classdict__" : Str)) = false := by decide)
    (hw : Vis X.env.scope y := by first | exact Or.inl rfl | exact Or.inr (Or.inl rfl) | exact Or.inr (Or.inr rfl)) (he : (y == ("__debug__" : Str)) = false := by decide) (hce : (y == ("__classdict__" : Str)) = false := by decide)
    (hg : Gl X z := by rfl) (hdb : (z == ("__debug__" : Str)) = false := by decide)
    (hes : starEach [.Name x p1, .Name y p2] X.env = (false, eval (.Name x p1) X.env) :: starEach [.Name y p2] X.env := by rfl) (hpl : (backTo pos (starEach [.Name y p2] X.env)).any (·.1) = false := by rfl)
    (hes2 : starEach [.Name y p2] X.env = (false, eval (.Name y p2) X.env) :: starEach [] X.env := by rfl) : PE X (.Call (.Name z p) [.Name x p1, .Name y p2] [] pos) (tE X.K (rCallB C f i j)) := by
  obtain ⟨fa, fd, ps, G, mg, kp, b⟩ := F
  refine (pe_call G hr hg mg kp b .nil pass0 (pa_cons (pe_var hN hv hd hcd) (pa_cons (pe_var hM hw he hce) pa_nil hes2) hes) hdb hes hpl).imp fun σ H Q ⟨Sh, F, L, ds, d, ds', w, e, q⟩ => ?_
  unfold rCallB at e
  split at e
  · rename_i a b ea eb
    obtain ⟨⟨r, os⟩, e1, e⟩ := Res.of_bind e
    split at e
    · rename_i c
      cases e
      rw [Bool.and_eq_true] at c
      obtain ⟨va, ia, ra⟩ := seen_rep w ea
      obtain ⟨vb, ib, rb⟩ := seen_rep w eb
      obtain rfl : os = [] := List.isEmpty_iff.mp c.2
      refine ⟨va, ia, vb, ib, un Sh (un L F), emp, emp, [a.frz, b.frz], r, [], rfl, ⟨⟨.nil_l, fun _ z => z.elim, fun b z => z.elim (w.wf.ls b) fun z => z.elim (w.wl.lf b) (w.wf.lf b)⟩, ⟨.nil_l, fun _ z => z.elim, fun b z => z.elim (w.wf.ls b) fun z => z.elim (w.wl.lf b) (w.wf.lf b)⟩, .nil_l, ⟨rfl, fun _ => emp, fun n z ez => ?_, fun _ => .nil, fun _ _ _ => .nil_l⟩, fun n z ez => ?_, w.tabs⟩, e1, fun v H' Sh' G' F' st dj rp sl => ?_⟩
      · match n, ez with
        | 0, ez => cases ez
        | 1, ez => cases ez
        | n + 2, ez => simp [slotsIn] at ez
      · match n, ez with
        | 0, ez => cases ez; exact ⟨va, rfl, ra⟩
        | 1, ez => cases ez; exact ⟨vb, rfl, rb⟩
        | n + 2, ez => simp [slotsIn] at ez
      · have kF : Kp Sh emp H H' := st.kp.wk .refl
        refine q v H' Sh emp F ⟨⟨st.kp.wk .nil, .refl, fun _ z => .inl z, fun b z => z.elim (fun z => z.elim) .inl, ⟨Dj.un_l .nil_l w.wf.dj, fun b z => z.elim (fun z => z.elim) fun z => st.kp.lv b (w.wf.lf b z) fun z => z.elim, fun b z => st.kp.lv b (w.wf.ls b z) fun z => z.elim⟩⟩, .nil_l, rp.atom c.1, ?_, .refl⟩
        obtain ⟨ln, g, h1, h2, h3⟩ := w.sl
        exact ⟨ln, g, fun n z ez => let ⟨v, a, r⟩ := h1 n z ez; ⟨v, a, r.keep kF .nil_l .refl .nil_r⟩, h2, h3⟩
    · cases e
  · cases e
end
end Vd
end
section
namespace VdL
open PySem PySem.Spec PyProof.Rows L2 Vd
def N_greatest_in_both : List Str := ["one", "other"]
theorem sc_greatest_in_both : FnScope N_greatest_in_both ["one", "other"] (defScope st_greatest_in_both) := ⟨rfl, rfl, rfl, by decide +kernel, rfl, by decide +kernel, by decide +kernel⟩
def b_greatest_in_both (C : CE) : SS :=
  sSeq (sPar 0 1 [rN absD [op 0], rN absD [op 1]]) (sSeq (sWhile (bVal (r2 neD (op 1) (ov (rC (.int 0))))) (sPar 0 1 [rVar 1, r2 modD (op 0) (op 1)])) (sRet (rVar 0)))
def N_top_of : List Str := ["number"]
theorem sc_top_of : FnScope N_top_of ["number"] (defScope st_top_of) := ⟨rfl, rfl, rfl, by decide +kernel, rfl, by decide +kernel, by decide +kernel⟩
def b_top_of (C : CE) : SS :=
  sSeq (sIf (bTru (ov (rIsi isTupD (op 0)))) (sRet (r2 itemD (oz 0) (ov (rC (.int 0))))) (sNil)) (sRet (rVar 0))
def N_below_of : List Str := ["number"]
theorem sc_below_of : FnScope N_below_of ["number"] (defScope st_below_of) := ⟨rfl, rfl, rfl, by decide +kernel, rfl, by decide +kernel, by decide +kernel⟩
def b_below_of (C : CE) : SS :=
  sSeq (sIf (bTru (ov (rIsi isTupD (op 0)))) (sRet (r2 itemD (oz 0) (ov (rC (.int 1))))) (sNil)) (sRet (rC (.int 1)))
def N_common_below : List Str := ["numbers", "found", "number", "below"]
theorem sc_common_below : FnScope N_common_below ["numbers"] (defScope st_common_below) := ⟨rfl, rfl, rfl, by decide +kernel, rfl, by decide +kernel, by decide +kernel⟩
def b_common_below (C : CE) : SS :=
  sSeq (sSet (gSet 1) (rC (.int 1))) (sSeq (sFor [.z 0] itemsD (gSet 2) (sSeq (sSet (gSet 3) (rCall C 3 [.vw (oz 2)])) (sSet (gSet 1) (r2 fdivD (ov (r2 mulD (op 1) (op 3))) (ov (rCall C 0 [.vw (ov (rVar 1)), .vw (ov (rVar 3))])))))) (sRet (rMv 1)))
def N_whole_by : List Str := ["number", "often"]
theorem sc_whole_by : FnScope N_whole_by ["number", "often"] (defScope st_whole_by) := ⟨rfl, rfl, rfl, by decide +kernel, rfl, by decide +kernel, by decide +kernel⟩
def b_whole_by (C : CE) : SS :=
  sRet (r2 mulD (ov (rCall C 2 [.vw (ov (rVar 0))])) (ov (r2 fdivD (op 1) (ov (rCall C 3 [.vw (oz 0)])))))
def N_lines_in : List Str := ["shape"]
theorem sc_lines_in : FnScope N_lines_in ["shape"] (defScope st_lines_in) := ⟨rfl, rfl, rfl, by decide +kernel, rfl, by decide +kernel, by decide +kernel⟩
def b_lines_in (C : CE) : SS :=
  sSeq (sIf (bVal (r2 eqD (ov (r2 itemD (oz 0) (ov (rC (.int 0))))) (ov (rC (.str ("points" : PySem.Str)))))) (sRet (rLst [r2 itemD (oz 0) (ov (rC (.int 1)))])) (sNil)) (sRet (rN listD' [ov (r2 itemD (oz 0) (ov (rC (.int 1))))]))
def N_all_corners : List Str := ["shape", "found", "line"]
theorem sc_all_corners : FnScope N_all_corners ["shape"] (defScope st_all_corners) := ⟨rfl, rfl, rfl, by decide +kernel, rfl, by decide +kernel, by decide +kernel⟩
def b_all_corners (C : CE) : SS :=
  sSeq (sSet (gSet 1) (rLst [])) (sSeq (sFor [.v (rCall C 51 [.vw (oz 0)])] itemsD (gSet 2) (sDrop (rExt 1 (oz 2)))) (sRet (rMv 1)))
def N_sides_in : List Str := ["shape", "found", "line", "one", "other"]
theorem sc_sides_in : FnScope N_sides_in ["shape"] (defScope st_sides_in) := ⟨rfl, rfl, rfl, by decide +kernel, rfl, by decide +kernel, by decide +kernel⟩
def b_sides_in (C : CE) : SS :=
  sSeq (sSet (gSet 1) (rLst [])) (sSeq (sIf (bVal (r2 eqD (ov (r2 itemD (oz 0) (ov (rC (.int 0))))) (ov (rC (.str ("points" : PySem.Str)))))) (sRet (rMv 1)) (sNil)) (sSeq (sFor [.v (rCall C 51 [.vw (oz 0)])] itemsD (gSet 2) (sSeq (sDrop (rExt 1 (ov (rLc [.z 2, .v (rSl (oz 2) (aPart (ov (rC (.int 1)))) noPart)] zipD [3, 4] (gTup' [gSet 3, gSet 4]) (bYes) (rTup [ov (rVar 3), ov (rVar 4)]))))) (sIf (bVal (r2 eqD (ov (r2 itemD (oz 0) (ov (rC (.int 0))))) (ov (rC (.str ("patch" : PySem.Str)))))) (sDrop (rMut 1 appendF [rTup [ov (r2 itemD (oz 2) (ov (r1 negD (ov (rC (.int 1)))))), ov (r2 itemD (oz 2) (ov (rC (.int 0))))]])) (sNil)))) (sRet (rMv 1))))
def N_whole_corner : List Str := ["corner", "often"]
theorem sc_whole_corner : FnScope N_whole_corner ["corner", "often"] (defScope st_whole_corner) := ⟨rfl, rfl, rfl, by decide +kernel, rfl, by decide +kernel, by decide +kernel⟩
def b_whole_corner (C : CE) : SS :=
  sRet (rTup [ov (rCall C 7 [.vw (ov (r2 itemD (oz 0) (ov (rC (.int 0))))), .vw (op 1)]), ov (rCall C 7 [.vw (ov (r2 itemD (oz 0) (ov (rC (.int 1))))), .vw (op 1)])])
def N_common_of_corners : List Str := ["corners", "numbers", "corner"]
theorem sc_common_of_corners : FnScope N_common_of_corners ["corners"] (defScope st_common_of_corners) := ⟨rfl, rfl, rfl, by decide +kernel, rfl, by decide +kernel, by decide +kernel⟩
def b_common_of_corners (C : CE) : SS :=
  sSeq (sSet (gSet 1) (rLst [])) (sSeq (sFor [.z 0] itemsD (gSet 2) (sDrop (rExt 1 (oz 2)))) (sRet (rCall C 6 [.vw (oz 1)])))
def N_sorted_corners : List Str := ["corners", "often", "corner"]
theorem sc_sorted_corners : FnScope N_sorted_corners ["corners"] (defScope st_sorted_corners) := ⟨rfl, rfl, rfl, by decide +kernel, rfl, by decide +kernel, by decide +kernel⟩
def b_sorted_corners (C : CE) : SS :=
  sSeq (sSet (gSet 1) (rCall C 9 [.vw (oz 0)])) (sRet (rSortK 2 (rCall C 8 [.vw (oz 2), .vw (op 1)]) (oz 0)))
def N_each_once : List Str := ["things", "place", "thing"]
theorem sc_each_once : FnScope N_each_once ["things"] (defScope st_each_once) := ⟨rfl, rfl, rfl, by decide +kernel, rfl, by decide +kernel, by decide +kernel⟩
def b_each_once (C : CE) : SS :=
  sRet (rLc [.z 0] enumD [1, 2] (gTup' [gSet 1, gSet 2]) (bOr (bVal (r2 eqD (op 1) (ov (rC (.int 0))))) (bVal (r2 neD (op 2) (ov (r2 itemD (oz 0) (ov (r2 subD (op 1) (ov (rC (.int 1)))))))))) (rVar 2))
def N_corners_in : List Str := ["shape"]
theorem sc_corners_in : FnScope N_corners_in ["shape"] (defScope st_corners_in) := ⟨rfl, rfl, rfl, by decide +kernel, rfl, by decide +kernel, by decide +kernel⟩
def b_corners_in (C : CE) : SS :=
  sRet (rCall C 71 [.vw (ov (rCall C 328 [.vw (ov (rCall C 52 [.vw (oz 0)]))]))])
def N__law_hand : List Str := ["_law_script", "_law_cell"]
theorem sc__law_hand : FnScope N__law_hand ["_law_script"] (defScope st__law_hand) := ⟨rfl, rfl, rfl, by decide +kernel, rfl, by decide +kernel, by decide +kernel⟩
def b__law_hand (C : CE) : SS :=
  sRet (rLst [rLc [.v (rSl (oz 0) noPart (aPart (ov (rC (.int 63)))))] itemsD [1] (gSet 1) (bYes) (rN absD [op 1]), rC (.int 0), rC (.int 0), rC (.int 0)])
def N__law_draw : List Str := ["_law_hand_here", "_law_many", "_law_cell", "_law_once", "_law_twice", "_law_found"]
theorem sc__law_draw : FnScope N__law_draw ["_law_hand_here", "_law_many"] (defScope st__law_draw) := ⟨rfl, rfl, rfl, by decide +kernel, rfl, by decide +kernel, by decide +kernel⟩
def b__law_draw (C : CE) : SS :=
  sSeq (sSet (gItem 0 (ov (rC (.int 3)))) (r2 addD (ov (r2 itemD (oz 0) (ov (rC (.int 3))))) (ov (rC (.int 1))))) (sSeq (sIf (bVal (r2 eqD (ov (r2 itemD (oz 0) (ov (rC (.int 2))))) (ov (rC (.int 0))))) (sSeq (sSet (gSet 2) (rC (.int 0))) (sSeq (sIf (bVal (r2 gtD (ov (rN lenD [ov (r2 itemD (oz 0) (ov (rC (.int 0))))])) (ov (rC (.int 0))))) (sSet (gSet 2) (r2 itemD (ov (r2 itemD (oz 0) (ov (rC (.int 0))))) (ov (r2 modD (ov (r2 itemD (oz 0) (ov (rC (.int 1))))) (ov (rN lenD [ov (r2 itemD (oz 0) (ov (rC (.int 0))))])))))) (sNil)) (sSeq (sSet (gItem 0 (ov (rC (.int 1)))) (r2 addD (ov (r2 itemD (oz 0) (ov (rC (.int 1))))) (ov (rC (.int 1))))) (sSeq (sIf (bOr (bVal (r2 ltD (op 2) (ov (r2 powD (ov (rC (.int 10))) (ov (rC (.int 18))))))) (bVal (r2 gtD (ov (r2 itemD (oz 0) (ov (rC (.int 1))))) (ov (rN lenD [ov (r2 itemD (oz 0) (ov (rC (.int 0))))]))))) (sSeq (sSet (gSet 3) (r2 addD (ov (r2 addD (ov (r2 modD (op 2) (ov (rC (.int 2147483629))))) (ov (r2 mulD (ov (rC (.int 7919))) (ov (r2 itemD (oz 0) (ov (rC (.int 3))))))))) (ov (rC (.int 11))))) (sSeq (sSet (gSet 3) (r2 modD (ov (r2 mulD (op 3) (ov (r2 addD (ov (rC (.int 48271))) (ov (r2 mulD (ov (rC (.int 2))) (ov (r2 itemD (oz 0) (ov (rC (.int 3))))))))))) (ov (rC (.int 2147483647))))) (sSeq (sSet (gSet 4) (r2 modD (ov (r2 addD (ov (r2 mulD (op 3) (ov (r2 addD (ov (r2 modD (op 3) (ov (rC (.int 39373))))) (ov (r2 itemD (oz 0) (ov (rC (.int 3))))))))) (ov (r2 mulD (ov (rC (.int 31))) (ov (r2 itemD (oz 0) (ov (rC (.int 3))))))))) (ov (rC (.int 1999999973))))) (sRet (r2 modD (ov (r2 fdivD (op 4) (ov (rC (.int 7))))) (op 1)))))) (sNil)) (sSet (gItem 0 (ov (rC (.int 2)))) (rVar 2)))))) (sNil)) (sSeq (sSet (gSet 5) (r2 modD (ov (r2 itemD (oz 0) (ov (rC (.int 2))))) (op 1))) (sSeq (sSet (gItem 0 (ov (rC (.int 2)))) (r2 fdivD (ov (r2 itemD (oz 0) (ov (rC (.int 2))))) (op 1))) (sRet (rMv 5)))))
def N__law_both : List Str := ["_law_one", "_law_other"]
theorem sc__law_both : FnScope N__law_both ["_law_one", "_law_other"] (defScope st__law_both) := ⟨rfl, rfl, rfl, by decide +kernel, rfl, by decide +kernel, by decide +kernel⟩
def b__law_both (C : CE) : SS :=
  sSeq (sPar 0 1 [rN absD [op 0], rN absD [op 1]]) (sSeq (sWhile (bVal (r2 gtD (op 1) (ov (rC (.int 0))))) (sPar 0 1 [rVar 1, r2 modD (op 0) (op 1)])) (sRet (rVar 0)))
def N__law_part : List Str := ["_law_top", "_law_below", "_law_both_here"]
theorem sc__law_part : FnScope N__law_part ["_law_top", "_law_below"] (defScope st__law_part) := ⟨rfl, rfl, rfl, by decide +kernel, rfl, by decide +kernel, by decide +kernel⟩
def b__law_part (C : CE) : SS :=
  sSeq (sIf (bVal (r2 ltD (op 1) (ov (rC (.int 0))))) (sPar 0 1 [r1 negD (op 0), r1 negD (op 1)]) (sNil)) (sSeq (sSet (gSet 2) (rCall C 40 [.vw (ov (rVar 0)), .vw (ov (rVar 1))])) (sRet (rIf (bVal (r2 eqD (op 2) (op 1))) (r2 fdivD (op 0) (op 2)) (rTup [ov (r2 fdivD (op 0) (op 2)), ov (r2 fdivD (op 1) (op 2))]))))
def N__law_split : List Str := ["_law_number_here"]
theorem sc__law_split : FnScope N__law_split ["_law_number_here"] (defScope st__law_split) := ⟨rfl, rfl, rfl, by decide +kernel, rfl, by decide +kernel, by decide +kernel⟩
def b__law_split (C : CE) : SS :=
  sRet (rIf (bTru (ov (rIsi isTupD (op 0)))) (rVar 0) (rTup [ov (rVar 0), ov (rC (.int 1))]))
def N__law_number : List Str := ["_law_hand_here", "_law_span_here", "_law_whole", "_law_way", "_law_half"]
theorem sc__law_number : FnScope N__law_number ["_law_hand_here", "_law_span_here"] (defScope st__law_number) := ⟨rfl, rfl, rfl, by decide +kernel, rfl, by decide +kernel, by decide +kernel⟩
def b__law_number (C : CE) : SS :=
  sSeq (sSet (gSet 2) (r2 subD (ov (rCall C 39 [.mu 0, .vw (ov (r2 addD (ov (r2 mulD (ov (rC (.int 2))) (op 1))) (ov (rC (.int 1)))))])) (op 1))) (sSeq (sSet (gSet 3) (rCall C 39 [.mu 0, .vw (ov (rC (.int 12)))])) (sSeq (sIf (bVal (r2 gtD (op 3) (ov (rC (.int 2))))) (sRet (rMv 2)) (sNil)) (sSeq (sIf (bVal (r2 eqD (op 3) (ov (rC (.int 2))))) (sSeq (sSet (gSet 4) (r2 addD (ov (r2 subD (ov (r2 mulD (ov (rC (.int 4))) (ov (r2 powD (ov (rC (.int 10))) (ov (rC (.int 9))))))) (ov (rC (.int 3))))) (ov (rCall C 39 [.mu 0, .vw (ov (rC (.int 7)))])))) (sRet (rCall C 41 [.vw (ov (rVar 4)), .vw (ov (r2 addD (ov (r2 mulD (ov (rC (.int 2))) (op 4))) (ov (rC (.int 1)))))]))) (sNil)) (sRet (rCall C 41 [.vw (ov (rVar 2)), .vw (ov (r2 itemD (ov (rLst [rC (.int 2), rC (.int 3), rC (.int 4), rC (.int 5), rC (.int 6), rC (.int 7), rC (.int 12), rC (.int 13)])) (ov (rCall C 39 [.mu 0, .vw (ov (rC (.int 8)))]))))])))))
def N__law_span : List Str := ["_law_hand_here"]
theorem sc__law_span : FnScope N__law_span ["_law_hand_here"] (defScope st__law_span) := ⟨rfl, rfl, rfl, by decide +kernel, rfl, by decide +kernel, by decide +kernel⟩
def b__law_span (C : CE) : SS :=
  sRet (r2 itemD (ov (rLst [rC (.int 3), rC (.int 3), rC (.int 6), rC (.int 6), rC (.int 12), rC (.int 12), rC (.int 40), rC (.int 999)])) (ov (rCall C 39 [.mu 0, .vw (ov (rC (.int 8)))])))
def N__law_corner : List Str := ["_law_hand_here", "_law_span_here"]
theorem sc__law_corner : FnScope N__law_corner ["_law_hand_here", "_law_span_here"] (defScope st__law_corner) := ⟨rfl, rfl, rfl, by decide +kernel, rfl, by decide +kernel, by decide +kernel⟩
def b__law_corner (C : CE) : SS :=
  sRet (rTup [ov (rCall C 43 [.mu 0, .vw (op 1)]), ov (rCall C 43 [.mu 0, .vw (op 1)])])
def N__law_points : List Str := ["_law_hand_here", "_law_span_here", "_law_most", "_law_some", "_law_k", "_law_one"]
theorem sc__law_points : FnScope N__law_points ["_law_hand_here", "_law_span_here", "_law_most"] (defScope st__law_points) := ⟨rfl, rfl, rfl, by decide +kernel, rfl, by decide +kernel, by decide +kernel⟩
def b__law_points (C : CE) : SS :=
  sSeq (sSet (gSet 3) (rLc [.v (r2 addD (ov (rC (.int 1))) (ov (rCall C 39 [.mu 0, .vw (op 2)])))] range1D [4] (gSet 4) (bYes) (rCall C 57 [.mu 0, .vw (op 1)]))) (sRet (rTup [ov (rC (.str ("points" : PySem.Str))), ov (rN tupleD' [ov (rLc [.z 3] enumD [4, 5] (gTup' [gSet 4, gSet 5]) (bVal (r2 (inD true) (op 5) (ov (rSl (oz 3) noPart (aPart (op 4)))))) (rVar 5))])]))
def N__law_beside : List Str := ["_law_number_here", "_law_top", "_law_below"]
theorem sc__law_beside : FnScope N__law_beside ["_law_number_here"] (defScope st__law_beside) := ⟨rfl, rfl, rfl, by decide +kernel, rfl, by decide +kernel, by decide +kernel⟩
def b__law_beside (C : CE) : SS :=
  sSeq (sSet (gTup' [gSet 1, gSet 2]) (rCall C 42 [.vw (ov (rVar 0))])) (sRet (rCall C 41 [.vw (ov (rIf (bVal (r2 gtD (op 1) (ov (rC (.int 0))))) (r2 subD (op 1) (op 2)) (r2 addD (oz 1) (oz 2)))), .vw (ov (rVar 2))]))
def N__law_row : List Str := ["_law_hand_here", "_law_span_here", "_law_most", "_law_row_here", "_law_k", "_law_other"]
theorem sc__law_row : FnScope N__law_row ["_law_hand_here", "_law_span_here", "_law_most"] (defScope st__law_row) := ⟨rfl, rfl, rfl, by decide +kernel, rfl, by decide +kernel, by decide +kernel⟩
def b__law_row (C : CE) : SS :=
  sSeq (sSet (gSet 3) (rLst [rCall C 57 [.mu 0, .vw (op 1)]])) (sSeq (sFor [.v (r2 addD (ov (rC (.int 1))) (ov (rCall C 39 [.mu 0, .vw (ov (r2 subD (op 2) (ov (rC (.int 1)))))])))] range1D (gSet 4) (sSeq (sSet (gSet 5) (rCall C 57 [.mu 0, .vw (op 1)])) (sSeq (sIf (bVal (r2 eqD (op 5) (ov (r2 itemD (oz 3) (ov (r1 negD (ov (rC (.int 1))))))))) (sSet (gSet 5) (rTup [ov (r2 itemD (oz 5) (ov (rC (.int 0)))), ov (rCall C 59 [.vw (ov (r2 itemD (oz 5) (ov (rC (.int 1)))))])])) (sNil)) (sDrop (rMut 3 appendF [rVar 5]))))) (sSeq (sIf (bAnd (bVal (r2 eqD (ov (rCall C 39 [.mu 0, .vw (ov (rC (.int 4)))])) (ov (rC (.int 0))))) (bVal (r2 neD (ov (r2 itemD (oz 3) (ov (r1 negD (ov (rC (.int 1))))))) (ov (r2 itemD (oz 3) (ov (rC (.int 0)))))))) (sDrop (rMut 3 appendF [r2 itemD (oz 3) (ov (rC (.int 0)))])) (sNil)) (sRet (rN tupleD' [oz 3]))))
def N__law_rows : List Str := ["_law_hand_here", "_law_span_here", "_law_most", "_law_many", "_law_k"]
theorem sc__law_rows : FnScope N__law_rows ["_law_hand_here", "_law_span_here", "_law_most", "_law_many"] (defScope st__law_rows) := ⟨rfl, rfl, rfl, by decide +kernel, rfl, by decide +kernel, by decide +kernel⟩
def b__law_rows (C : CE) : SS :=
  sRet (rTup [ov (rC (.str ("rows" : PySem.Str))), ov (rN tupleD' [ov (rLc [.v (r2 addD (ov (rC (.int 1))) (ov (rCall C 39 [.mu 0, .vw (op 3)])))] range1D [4] (gSet 4) (bYes) (rCall C 60 [.mu 0, .vw (op 1), .vw (op 2)]))])])
def N__law_rings : List Str := ["_law_hand_here", "_law_square", "_law_some", "_law_k"]
theorem sc__law_rings : FnScope N__law_rings ["_law_hand_here"] (defScope st__law_rings) := ⟨rfl, rfl, rfl, by decide +kernel, rfl, by decide +kernel, by decide +kernel⟩
def b__law_rings (C : CE) : SS :=
  sSeq (sSet (gSet 1) (rTup [ov (rTup [ov (rC (.int 0)), ov (rC (.int 0))]), ov (rTup [ov (rC (.int 6)), ov (rC (.int 0))]), ov (rTup [ov (rC (.int 6)), ov (rC (.int 6))]), ov (rTup [ov (rC (.int 0)), ov (rC (.int 6))])])) (sSeq (sSet (gSet 2) (rLst [rLst [rVar 1], rLst [rTup [ov (rTup [ov (rC (.int 0)), ov (rC (.int 0))]), ov (rTup [ov (rC (.int 8)), ov (rC (.int 1))]), ov (rTup [ov (rC (.int 2)), ov (rC (.int 7))])]], rLst [rTup [ov (rTup [ov (rC (.int 0)), ov (rC (.int 0))]), ov (rTup [ov (rC (.int 8)), ov (rC (.int 0))]), ov (rTup [ov (rC (.int 8)), ov (rC (.int 3))]), ov (rTup [ov (rC (.int 3)), ov (rC (.int 3))]), ov (rTup [ov (rC (.int 3)), ov (rC (.int 8))]), ov (rTup [ov (rC (.int 0)), ov (rC (.int 8))])]]])) (sSeq (sDrop (rMut 2 appendF [rLst [rTup [ov (rTup [ov (rC (.int 0)), ov (rC (.int 0))]), ov (rTup [ov (rC (.int 9)), ov (rC (.int 0))]), ov (rTup [ov (rC (.int 9)), ov (rC (.int 9))]), ov (rTup [ov (rC (.int 0)), ov (rC (.int 9))])], rTup [ov (rTup [ov (rC (.int 2)), ov (rC (.int 2))]), ov (rTup [ov (rC (.int 7)), ov (rC (.int 2))]), ov (rTup [ov (rC (.int 7)), ov (rC (.int 7))]), ov (rTup [ov (rC (.int 2)), ov (rC (.int 7))])]]])) (sSeq (sDrop (rMut 2 appendF [rLst [rVar 1, rTup [ov (rTup [ov (rC (.int 0)), ov (rC (.int 4))]), ov (rTup [ov (rC (.int 2)), ov (rC (.int 2))]), ov (rTup [ov (rC (.int 3)), ov (rC (.int 5))])]]])) (sSeq (sDrop (rMut 2 appendF [rLst [rTup [ov (rTup [ov (rC (.int 0)), ov (rC (.int 0))]), ov (rTup [ov (rC (.int 4)), ov (rC (.int 0))]), ov (rTup [ov (rC (.int 4)), ov (rC (.int 4))]), ov (rTup [ov (rC (.int 0)), ov (rC (.int 4))])], rTup [ov (rTup [ov (rC (.int 4)), ov (rC (.int 4))]), ov (rTup [ov (rC (.int 8)), ov (rC (.int 4))]), ov (rTup [ov (rC (.int 8)), ov (rC (.int 8))]), ov (rTup [ov (rC (.int 4)), ov (rC (.int 8))])]]])) (sSeq (sDrop (rMut 2 appendF [rLst [rTup [ov (rTup [ov (rC (.int 0)), ov (rC (.int 0))]), ov (rTup [ov (rC (.int 4)), ov (rC (.int 4))]), ov (rTup [ov (rC (.int 8)), ov (rC (.int 0))]), ov (rTup [ov (rC (.int 8)), ov (rC (.int 8))]), ov (rTup [ov (rC (.int 4)), ov (rC (.int 4))]), ov (rTup [ov (rC (.int 0)), ov (rC (.int 8))])]]])) (sSeq (sDrop (rMut 2 appendF [rLst [rVar 1, rTup [ov (rTup [ov (rC (.int 1)), ov (rC (.int 1))]), ov (rTup [ov (rC (.int 3)), ov (rC (.int 1))]), ov (rTup [ov (rC (.int 3)), ov (rC (.int 3))]), ov (rTup [ov (rC (.int 1)), ov (rC (.int 3))])], rTup [ov (rTup [ov (rC (.int 3)), ov (rC (.int 3))]), ov (rTup [ov (rC (.int 5)), ov (rC (.int 3))]), ov (rTup [ov (rC (.int 5)), ov (rC (.int 5))]), ov (rTup [ov (rC (.int 3)), ov (rC (.int 5))])]]])) (sSeq (sDrop (rMut 2 appendF [rLst [rTup [ov (rTup [ov (rC (.int 0)), ov (rC (.int 0))]), ov (rTup [ov (rC (.int 9)), ov (rC (.int 0))]), ov (rTup [ov (rC (.int 9)), ov (rC (.int 9))]), ov (rTup [ov (rC (.int 0)), ov (rC (.int 9))])], rTup [ov (rTup [ov (rC (.int 1)), ov (rC (.int 1))]), ov (rTup [ov (rC (.int 8)), ov (rC (.int 1))]), ov (rTup [ov (rC (.int 8)), ov (rC (.int 8))]), ov (rTup [ov (rC (.int 1)), ov (rC (.int 8))])], rTup [ov (rTup [ov (rC (.int 3)), ov (rC (.int 3))]), ov (rTup [ov (rC (.int 6)), ov (rC (.int 3))]), ov (rTup [ov (rC (.int 4)), ov (rC (.int 6))])]]])) (sSeq (sDrop (rMut 2 appendF [rLst [rTup [ov (rTup [ov (rC (.int 0)), ov (rC (.int 0))]), ov (rTup [ov (rC (.int 3)), ov (rC (.int 0))]), ov (rTup [ov (rC (.int 3)), ov (rC (.int 2))]), ov (rTup [ov (rC (.int 0)), ov (rC (.int 2))])], rTup [ov (rTup [ov (rC (.int 5)), ov (rC (.int 0))]), ov (rTup [ov (rC (.int 8)), ov (rC (.int 0))]), ov (rTup [ov (rC (.int 8)), ov (rC (.int 2))]), ov (rTup [ov (rC (.int 5)), ov (rC (.int 2))])], rTup [ov (rTup [ov (rC (.int 3)), ov (rC (.int 2))]), ov (rTup [ov (rC (.int 5)), ov (rC (.int 2))]), ov (rTup [ov (rC (.int 4)), ov (rC (.int 6))])]]])) (sSeq (sDrop (rMut 2 appendF [rLc [.v (rC (.int 8))] range1D [3] (gSet 3) (bYes) (rTup [ov (rTup [ov (r2 mulD (ov (rC (.int 3))) (op 3)), ov (r2 modD (op 3) (ov (rC (.int 2))))]), ov (rTup [ov (r2 addD (ov (r2 mulD (ov (rC (.int 3))) (op 3))) (ov (rC (.int 2)))), ov (rC (.int 0))]), ov (rTup [ov (r2 addD (ov (r2 mulD (ov (rC (.int 3))) (op 3))) (ov (rC (.int 1)))), ov (rC (.int 3))])])])) (sRet (r2 itemD (oz 2) (ov (rCall C 39 [.mu 0, .vw (ov (rC (.int 11)))])))))))))))))
def N__law_patch : List Str := ["_law_hand_here", "_law_span_here", "_law_ways", "_law_a", "_law_b", "_law_c", "_law_d", "_law_below", "_law_x", "_law_y", "_law_rings_here", "_law_ring", "_law_made", "_law_p", "_law_q", "_law_at"]
theorem sc__law_patch : FnScope N__law_patch ["_law_hand_here", "_law_span_here"] (defScope st__law_patch) := ⟨rfl, rfl, rfl, by decide +kernel, rfl, by decide +kernel, by decide +kernel⟩
def b__law_patch (C : CE) : SS :=
  sSeq (sSet (gSet 2) (rLst [rTup [ov (rC (.int 1)), ov (rC (.int 0)), ov (rC (.int 0)), ov (rC (.int 1))], rTup [ov (rC (.int 0)), ov (r1 negD (ov (rC (.int 1)))), ov (rC (.int 1)), ov (rC (.int 0))], rTup [ov (rC (.int 1)), ov (rC (.int 1)), ov (rC (.int 0)), ov (rC (.int 1))], rTup [ov (rC (.int 2)), ov (rC (.int 0)), ov (rC (.int 0)), ov (rC (.int 1))], rTup [ov (rC (.int 1)), ov (rC (.int 0)), ov (r1 negD (ov (rC (.int 1)))), ov (rC (.int 1))], rTup [ov (r1 negD (ov (rC (.int 1)))), ov (rC (.int 0)), ov (rC (.int 0)), ov (rC (.int 1))]])) (sSeq (sSet (gTup' [gSet 3, gSet 4, gSet 5, gSet 6]) (r2 itemD (oz 2) (ov (rCall C 39 [.mu 0, .vw (ov (rC (.int 6)))])))) (sSeq (sSet (gSet 7) (r2 itemD (ov (rLst [rC (.int 1), rC (.int 1), rC (.int 1), rC (.int 2), rC (.int 3), rC (.int 10)])) (ov (rCall C 39 [.mu 0, .vw (ov (rC (.int 6)))])))) (sSeq (sSet (gTup' [gSet 8, gSet 9]) (rTup [ov (r2 subD (ov (rCall C 39 [.mu 0, .vw (ov (r2 addD (ov (r2 mulD (ov (rC (.int 2))) (op 1))) (ov (rC (.int 1)))))])) (op 1)), ov (r2 subD (ov (rCall C 39 [.mu 0, .vw (ov (r2 addD (ov (r2 mulD (ov (rC (.int 2))) (op 1))) (ov (rC (.int 1)))))])) (op 1))])) (sSeq (sSet (gSet 10) (rLst [])) (sSeq (sFor [.v (rCall C 62 [.mu 0])] itemsD (gSet 11) (sSeq (sSet (gSet 12) (rLc [.z 11] itemsD [13, 14] (gTup' [gSet 13, gSet 14]) (bYes) (rTup [ov (rCall C 41 [.vw (ov (r2 addD (ov (r2 addD (ov (r2 mulD (op 3) (op 13))) (ov (r2 mulD (op 4) (op 14))))) (oz 8))), .vw (ov (rVar 7))]), ov (rCall C 41 [.vw (ov (r2 addD (ov (r2 addD (ov (r2 mulD (op 5) (op 13))) (ov (r2 mulD (op 6) (op 14))))) (oz 9))), .vw (ov (rVar 7))])]))) (sSeq (sSet (gSet 15) (rCall C 39 [.mu 0, .vw (ov (rN lenD [op 12]))])) (sSeq (sSet (gSet 12) (r2 addD (ov (rSl (oz 12) (aPart (op 15)) noPart)) (ov (rSl (oz 12) noPart (aPart (op 15)))))) (sSeq (sIf (bVal (r2 eqD (ov (rCall C 39 [.mu 0, .vw (ov (rC (.int 2)))])) (ov (rC (.int 0))))) (sDrop (rMut 12 reverseF [])) (sNil)) (sDrop (rMut 10 appendF [rN tupleD' [oz 12]]))))))) (sRet (rTup [ov (rC (.str ("patch" : PySem.Str))), ov (rN tupleD' [oz 10])])))))))
def N__law_shape : List Str := ["_law_hand_here", "_law_span_here", "_law_way", "_law_most", "_law_many"]
theorem sc__law_shape : FnScope N__law_shape ["_law_hand_here"] (defScope st__law_shape) := ⟨rfl, rfl, rfl, by decide +kernel, rfl, by decide +kernel, by decide +kernel⟩
def b__law_shape (C : CE) : SS :=
  sSeq (sSet (gSet 1) (rCall C 44 [.mu 0])) (sSeq (sSet (gSet 2) (rCall C 39 [.mu 0, .vw (ov (rC (.int 4)))])) (sSeq (sIf (bVal (r2 eqD (op 2) (ov (rC (.int 0))))) (sRet (rCall C 58 [.mu 0, .vw (op 1), .vw (ov (r2 itemD (ov (rLst [rC (.int 4), rC (.int 12)])) (ov (rCall C 39 [.mu 0, .vw (ov (rC (.int 2)))]))))])) (sNil)) (sSeq (sIf (bVal (r2 eqD (op 2) (ov (rC (.int 1))))) (sSeq (sSet (gTup' [gSet 3, gSet 4]) (r2 itemD (ov (rLst [rTup [ov (rC (.int 3)), ov (rC (.int 2))], rTup [ov (rC (.int 9)), ov (rC (.int 2))], rTup [ov (rC (.int 3)), ov (rC (.int 8))], rTup [ov (rC (.int 4)), ov (rC (.int 7))]])) (ov (rCall C 39 [.mu 0, .vw (ov (rC (.int 4)))])))) (sRet (rCall C 61 [.mu 0, .vw (op 1), .vw (op 3), .vw (op 4)]))) (sNil)) (sRet (rCall C 63 [.mu 0, .vw (ov (rN min2A [op 1, ov (rC (.int 900))]))])))))
def N__law_less : List Str := ["_law_one", "_law_other", "_law_a", "_law_b", "_law_c", "_law_d"]
theorem sc__law_less : FnScope N__law_less ["_law_one", "_law_other"] (defScope st__law_less) := ⟨rfl, rfl, rfl, by decide +kernel, rfl, by decide +kernel, by decide +kernel⟩
def b__law_less (C : CE) : SS :=
  sSeq (sSet (gTup' [gSet 2, gSet 3]) (rCall C 42 [.vw (ov (rVar 0))])) (sSeq (sSet (gTup' [gSet 4, gSet 5]) (rCall C 42 [.vw (ov (rVar 1))])) (sRet (r2 ltD (ov (r2 mulD (op 2) (op 5))) (ov (r2 mulD (op 4) (op 3))))))
def N__law_ahead : List Str := ["_law_one", "_law_other"]
theorem sc__law_ahead : FnScope N__law_ahead ["_law_one", "_law_other"] (defScope st__law_ahead) := ⟨rfl, rfl, rfl, by decide +kernel, rfl, by decide +kernel, by decide +kernel⟩
def b__law_ahead (C : CE) : SS :=
  sSeq (sIf (bVal (r2 neD (ov (r2 itemD (oz 0) (ov (rC (.int 0))))) (ov (r2 itemD (oz 1) (ov (rC (.int 0))))))) (sRet (rCall C 65 [.vw (ov (r2 itemD (oz 0) (ov (rC (.int 0))))), .vw (ov (r2 itemD (oz 1) (ov (rC (.int 0)))))])) (sNil)) (sRet (rCall C 65 [.vw (ov (r2 itemD (oz 0) (ov (rC (.int 1))))), .vw (ov (r2 itemD (oz 1) (ov (rC (.int 1)))))]))
def N__law_corners : List Str := ["_law_shape_here", "_law_found", "_law_line"]
theorem sc__law_corners : FnScope N__law_corners ["_law_shape_here"] (defScope st__law_corners) := ⟨rfl, rfl, rfl, by decide +kernel, rfl, by decide +kernel, by decide +kernel⟩
def b__law_corners (C : CE) : SS :=
  sSeq (sIf (bVal (r2 eqD (ov (r2 itemD (oz 0) (ov (rC (.int 0))))) (ov (rC (.str ("points" : PySem.Str)))))) (sRet (rN listD' [ov (r2 itemD (oz 0) (ov (rC (.int 1))))])) (sNil)) (sSeq (sSet (gSet 1) (rLst [])) (sSeq (sFor [.v (r2 itemD (oz 0) (ov (rC (.int 1))))] itemsD (gSet 2) (sDrop (rExt 1 (oz 2)))) (sRet (rMv 1))))
def N__law_same : List Str := ["_law_found", "_law_due", "_law_one", "_law_other"]
theorem sc__law_same : FnScope N__law_same ["_law_found", "_law_due"] (defScope st__law_same) := ⟨rfl, rfl, rfl, by decide +kernel, rfl, by decide +kernel, by decide +kernel⟩
def b__law_same (C : CE) : SS :=
  sSeq (sIf (bTru (ov (rIsi2 isLstD isTupD (op 1)))) (sSeq (sIf (bOr (bVal (r2 neD (ov (rIsi isLstD (op 0))) (ov (rIsi isLstD (op 1))))) (bVal (r2 neD (ov (rIsi isTupD (op 0))) (ov (rIsi isTupD (op 1)))))) (sRet (rC (.bl false))) (sNil)) (sRet (rAnd (r2 eqD (ov (rN lenD [op 0])) (ov (rN lenD [op 1]))) (rN allD [ov (rLc [.z 0, .z 1] zipD [2, 3] (gTup' [gSet 2, gSet 3]) (bYes) (rCall C 72 [.vw (oz 2), .vw (oz 3)]))])))) (sNil)) (sSeq (sIf (bOr (bVal (r2 isD (op 1) (ov (rC .non)))) (bTru (ov (rIsi isStrD (op 1))))) (sRet (rAnd (r2 eqD (op 0) (op 1)) (r2 eqD (ov (rIsi isStrD (op 0))) (ov (rIsi isStrD (op 1)))))) (sNil)) (sRet (rAnd (rIsi isIntD (op 0)) (rAnd (rNot (ov (rIsi isBoolD (op 0)))) (r2 eqD (op 0) (op 1))))))
def N__law_sides : List Str := ["_law_shape_here", "_law_found", "_law_line", "_law_k"]
theorem sc__law_sides : FnScope N__law_sides ["_law_shape_here"] (defScope st__law_sides) := ⟨rfl, rfl, rfl, by decide +kernel, rfl, by decide +kernel, by decide +kernel⟩
def b__law_sides (C : CE) : SS :=
  sSeq (sSet (gSet 1) (rLst [])) (sSeq (sIf (bVal (r2 eqD (ov (r2 itemD (oz 0) (ov (rC (.int 0))))) (ov (rC (.str ("points" : PySem.Str)))))) (sRet (rMv 1)) (sNil)) (sSeq (sFor [.v (r2 itemD (oz 0) (ov (rC (.int 1))))] itemsD (gSet 2) (sSeq (sFor [.v (rC (.int 1)), .v (rN lenD [op 2])] range2D (gSet 3) (sDrop (rMut 1 appendF [rTup [ov (r2 itemD (oz 2) (ov (r2 subD (op 3) (ov (rC (.int 1)))))), ov (r2 itemD (oz 2) (op 3))]]))) (sIf (bVal (r2 eqD (ov (r2 itemD (oz 0) (ov (rC (.int 0))))) (ov (rC (.str ("patch" : PySem.Str)))))) (sDrop (rMut 1 appendF [rTup [ov (r2 itemD (oz 2) (ov (r2 subD (ov (rN lenD [op 2])) (ov (rC (.int 1)))))), ov (r2 itemD (oz 2) (ov (rC (.int 0))))]])) (sNil)))) (sRet (rMv 1))))
def N__law_put_in : List Str := ["_law_corners_here", "_law_found", "_law_corner_here", "_law_at", "_law_one"]
theorem sc__law_put_in : FnScope N__law_put_in ["_law_corners_here"] (defScope st__law_put_in) := ⟨rfl, rfl, rfl, by decide +kernel, rfl, by decide +kernel, by decide +kernel⟩
def b__law_put_in (C : CE) : SS :=
  sSeq (sSet (gSet 1) (rLst [])) (sSeq (sFor [.z 0] itemsD (gSet 2) (sIf (bVal (r2 (inD true) (op 2) (op 1))) (sSeq (sSet (gSet 3) (rN lenD [ov (rLc [.z 1] itemsD [4] (gSet 4) (bTru (ov (rCall C 66 [.vw (oz 4), .vw (oz 2)]))) (rVar 4))])) (sDrop (rMut 1 insertF [rVar 3, rVar 2]))) (sNil))) (sRet (rMv 1)))
def N_law : List Str := ["_law_script", "_law_hand_here", "_law_turn", "_law_shape_here", "_law_due", "_law_again", "_law_found", "_law_some"]
theorem sc_law : FnScope N_law ["_law_script"] (defScope st_law) := ⟨rfl, rfl, rfl, by decide +kernel, rfl, by decide +kernel, by decide +kernel⟩
def b_law (C : CE) : SS :=
  sSeq (sSet (gSet 1) (rCall C 38 [.vw (oz 0)])) (sSeq (sFor [.v (rC (.int 10))] range1D (gSet 2) (sSeq (sSet (gSet 3) (rCall C 64 [.mu 1])) (sSeq (sSet (gSet 4) (rLst [rCall C 73 [.vw (oz 3)], rCall C 74 [.vw (ov (rCall C 67 [.vw (oz 3)]))]])) (sFor [.v (rC (.int 2))] range1D (gSet 5) (sSeq (sSet (gSet 6) (rLst [rCall C 70 [.vw (oz 3)], rCall C 329 [.vw (oz 3)]])) (sSeq (sIf (bNot (bTru (ov (rCallB C 72 6 4)))) (sRet (rC (.bl false))) (sNil)) (sForMv 6 (gSet 7) (sSeq (sDrop (rMut 7 appendF [rC (.str ("more" : PySem.Str))])) (sDrop (rMut 7 reverseF [])))))))))) (sRet (rC (.bl true))))
structure Ns (mg : Str → Option Value) : Prop where
  n_abs : mg "abs" = none
  n_all : mg "all" = none
  n_bool : mg "bool" = none
  n_enumerate : mg "enumerate" = none
  n_int : mg "int" = none
  n_isinstance : mg "isinstance" = none
  n_len : mg "len" = none
  n_list : mg "list" = none
  n_min : mg "min" = none
  n_range : mg "range" = none
  n_sorted : mg "sorted" = none
  n_str : mg "str" = none
  n_tuple : mg "tuple" = none
  n_zip : mg "zip" = none
  c_PATCH : ∃ t, mg "PATCH" = some (.str "patch" t)
  c_POINTS : ∃ t, mg "POINTS" = some (.str "points" t)
structure Cs (Pr : Program) (w : World) (K : PySem.W.Frag) (mg : Str → Option Value) (base : Heap) (C : CE) (k : Nat) : Prop where
  l_sorted_corners : LamX.TabB base mg (He.cT K ("sorted_corners", none)).1 (He.cT K ("sorted_corners", none)).2
  a_sorted_corners : (He.cT K ("sorted_corners", none)).2 = 84
  f_greatest_in_both : FT Pr w K mg base "greatest_in_both" [false, false] (C 0) k
  f_top_of : FT Pr w K mg base "top_of" [false] (C 2) k
  f_below_of : FT Pr w K mg base "below_of" [false] (C 3) k
  f_common_below : FT Pr w K mg base "common_below" [false] (C 6) k
  f_whole_by : FT Pr w K mg base "whole_by" [false, false] (C 7) k
  f_lines_in : FT Pr w K mg base "lines_in" [false] (C 51) k
  f_all_corners : FT Pr w K mg base "all_corners" [false] (C 52) k
  f_sides_in : FT Pr w K mg base "sides_in" [false] (C 70) k
  f_whole_corner : FT Pr w K mg base "whole_corner" [false, false] (C 8) k
  f_common_of_corners : FT Pr w K mg base "common_of_corners" [false] (C 9) k
  f_sorted_corners : FT Pr w K mg base "sorted_corners" [false] (C 328) k
  f_each_once : FT Pr w K mg base "each_once" [false] (C 71) k
  f_corners_in : FT Pr w K mg base "corners_in" [false] (C 329) k
  f__law_hand : FT Pr w K mg base "_law_hand" [false] (C 38) k
  f__law_draw : FT Pr w K mg base "_law_draw" [true, false] (C 39) k
  f__law_both : FT Pr w K mg base "_law_both" [false, false] (C 40) k
  f__law_part : FT Pr w K mg base "_law_part" [false, false] (C 41) k
  f__law_split : FT Pr w K mg base "_law_split" [false] (C 42) k
  f__law_number : FT Pr w K mg base "_law_number" [true, false] (C 43) k
  f__law_span : FT Pr w K mg base "_law_span" [true] (C 44) k
  f__law_corner : FT Pr w K mg base "_law_corner" [true, false] (C 57) k
  f__law_points : FT Pr w K mg base "_law_points" [true, false, false] (C 58) k
  f__law_beside : FT Pr w K mg base "_law_beside" [false] (C 59) k
  f__law_row : FT Pr w K mg base "_law_row" [true, false, false] (C 60) k
  f__law_rows : FT Pr w K mg base "_law_rows" [true, false, false, false] (C 61) k
  f__law_rings : FT Pr w K mg base "_law_rings" [true] (C 62) k
  f__law_patch : FT Pr w K mg base "_law_patch" [true, false] (C 63) k
  f__law_shape : FT Pr w K mg base "_law_shape" [true] (C 64) k
  f__law_less : FT Pr w K mg base "_law_less" [false, false] (C 65) k
  f__law_ahead : FT Pr w K mg base "_law_ahead" [false, false] (C 66) k
  f__law_corners : FT Pr w K mg base "_law_corners" [false] (C 67) k
  f__law_same : FT Pr w K mg base "_law_same" [false, false] (C 72) k
  f__law_sides : FT Pr w K mg base "_law_sides" [false] (C 73) k
  f__law_put_in : FT Pr w K mg base "_law_put_in" [false] (C 74) k
  f_law : FT Pr w K mg base "law" [false] (C 334) k
section
variable {Pr : Program} {w : World} {K : PySem.W.Frag} {mg : Str → Option Value} {base : Heap} {f : Addr} {fd : FuncData} {C : CE} {k : Nat}
abbrev FnP (K : PySem.W.Frag) (x : Str) (st : Stmt) (f : Addr) (fd : FuncData) : Prop := FunD K x x (defArgs st) (defBody st) (defScope st) [] [] f fd
theorem ok_greatest_in_both (T : Ns mg) (D : Cs Pr w K mg base C k) (F : FnP K "greatest_in_both" st_greatest_in_both f fd) : FnOk Pr w K mg base CX0 (k + 2) f fd ["one", "other"] (spF K [false, false] (fnRun 2 [false, false] (b_greatest_in_both C))) :=
  fn_ok F sc_greatest_in_both rfl fun cdv A outer s H E hrL =>
    have hr := hrL.mono (Nat.le_succ k)
    ss_cons (s_par rfl sc_greatest_in_both.nd (ao_cons (x_abs T.n_abs (ea_cons (eo_p) (ea_nil))) (ao_cons (x_abs T.n_abs (ea_cons (eo_p) (ea_nil))) ao_nil)) rfl) (ss_cons (s_while .never (t_ne hr (eo_p) (eo (e_int))) (ss_one (s_par rfl sc_greatest_in_both.nd (ao_cons (e_var) (ao_cons (x_mod (eo_p) (eo_p)) ao_nil)) rfl))) (ss_one (s_ret (e_var))))
theorem ok_top_of (T : Ns mg) (D : Cs Pr w K mg base C k) (F : FnP K "top_of" st_top_of f fd) : FnOk Pr w K mg base CX0 (k + 2) f fd ["number"] (spF K [false] (fnRun 1 [false] (b_top_of C))) :=
  fn_ok F sc_top_of rfl fun cdv A outer s H E hrL =>
    have hr := hrL.mono (Nat.le_succ k)
    ss_cons (s_if (EO.tru (eo (e_isi (eo_p) k_tup T.n_isinstance T.n_tuple))) (ss_one (s_ret (e_ix (eo_z) (eo (e_int))))) (ss_nil)) (ss_one (s_ret (e_var)))
theorem ok_below_of (T : Ns mg) (D : Cs Pr w K mg base C k) (F : FnP K "below_of" st_below_of f fd) : FnOk Pr w K mg base CX0 (k + 2) f fd ["number"] (spF K [false] (fnRun 1 [false] (b_below_of C))) :=
  fn_ok F sc_below_of rfl fun cdv A outer s H E hrL =>
    have hr := hrL.mono (Nat.le_succ k)
    ss_cons (s_if (EO.tru (eo (e_isi (eo_p) k_tup T.n_isinstance T.n_tuple))) (ss_one (s_ret (e_ix (eo_z) (eo (e_int))))) (ss_nil)) (ss_one (s_ret (e_int)))
theorem ok_common_below (T : Ns mg) (D : Cs Pr w K mg base C k) (F : FnP K "common_below" st_common_below f fd) : FnOk Pr w K mg base CX0 (k + 2) f fd ["numbers"] (spF K [false] (fnRun 4 [false] (b_common_below C))) :=
  fn_ok F sc_common_below rfl fun cdv A outer s H E hrL =>
    have hr := hrL.mono (Nat.le_succ k)
    ss_cons (s_set (e_int) sc_common_below.nd) (ss_cons (s_for .never rfl (it_seq (ek_z)) (g_name sc_common_below.nd) (ss_cons (s_set (e_call D.f_below_of hr (ec_vw (eo_z) (ec_nil))) sc_common_below.nd) (ss_one (s_set (x_fdiv (eo (x_mul (eo_p) (eo_p))) (eo (e_call D.f_greatest_in_both hr (ec_vw (eo (e_var)) (ec_vw (eo (e_var)) (ec_nil)))))) sc_common_below.nd)))) (ss_one (s_ret (e_mv))))
theorem ok_whole_by (T : Ns mg) (D : Cs Pr w K mg base C k) (F : FnP K "whole_by" st_whole_by f fd) : FnOk Pr w K mg base CX0 (k + 2) f fd ["number", "often"] (spF K [false, false] (fnRun 2 [false, false] (b_whole_by C))) :=
  fn_ok F sc_whole_by rfl fun cdv A outer s H E hrL =>
    have hr := hrL.mono (Nat.le_succ k)
    ss_one (s_ret (x_mul (eo (e_call D.f_top_of hr (ec_vw (eo (e_var)) (ec_nil)))) (eo (x_fdiv (eo_p) (eo (e_call D.f_below_of hr (ec_vw (eo_z) (ec_nil))))))))
theorem ok_lines_in (T : Ns mg) (D : Cs Pr w K mg base C k) (F : FnP K "lines_in" st_lines_in f fd) : FnOk Pr w K mg base CX0 (k + 2) f fd ["shape"] (spF K [false] (fnRun 1 [false] (b_lines_in C))) :=
  fn_ok F sc_lines_in rfl fun cdv A outer s H E hrL =>
    have hr := hrL.mono (Nat.le_succ k)
    ss_cons (s_if (t_eq hr (eo (e_ix (eo_z) (eo (e_int)))) (eo (e_globS T.c_POINTS))) (ss_one (s_ret (e_lst (ao_cons (e_ix (eo_z) (eo (e_int))) (ao_nil))))) (ss_nil)) (ss_one (s_ret (x_list T.n_list (ea_cons (eo (e_ix (eo_z) (eo (e_int)))) (ea_nil)))))
theorem ok_all_corners (T : Ns mg) (D : Cs Pr w K mg base C k) (F : FnP K "all_corners" st_all_corners f fd) : FnOk Pr w K mg base CX0 (k + 2) f fd ["shape"] (spF K [false] (fnRun 3 [false] (b_all_corners C))) :=
  fn_ok F sc_all_corners rfl fun cdv A outer s H E hrL =>
    have hr := hrL.mono (Nat.le_succ k)
    ss_cons (s_set (e_lst (ao_nil)) sc_all_corners.nd) (ss_cons (s_for .never rfl (it_seq (ek (e_call D.f_lines_in hr (ec_vw (eo_z) (ec_nil))))) (g_name sc_all_corners.nd) (ss_one (s_expr (e_extend (eo_z))))) (ss_one (s_ret (e_mv))))
theorem ok_sides_in (T : Ns mg) (D : Cs Pr w K mg base C k) (F : FnP K "sides_in" st_sides_in f fd) : FnOk Pr w K mg base CX0 (k + 2) f fd ["shape"] (spF K [false] (fnRun 5 [false] (b_sides_in C))) :=
  fn_ok F sc_sides_in rfl fun cdv A outer s H E hrL =>
    have hr := hrL.mono (Nat.le_succ k)
    ss_cons (s_set (e_lst (ao_nil)) sc_sides_in.nd) (ss_cons (s_if (t_eq hr (eo (e_ix (eo_z) (eo (e_int)))) (eo (e_globS T.c_POINTS))) (ss_one (s_ret (e_mv))) (ss_nil)) (ss_cons (s_for .never rfl (it_seq (ek (e_call D.f_lines_in hr (ec_vw (eo_z) (ec_nil))))) (g_name sc_sides_in.nd) (ss_cons (s_expr (e_extend (eo (e_lc (P := []) (n := 5) (own := [("one", 3), ("other", 4)]) rfl rfl rfl sc_sides_in.nd (it_zip (ek_z) (ek (e_sl (eo_z) (ept (eo (e_int))) ept_no)) T.n_zip) (blkOk_by (N := N_sides_in) (sc := (defScope st_sides_in)) (by decide +kernel)) (fun _ _ _ _ _ => g_tup rfl (gs_cons (g_name sc_sides_in.nd) (gs_cons (g_name sc_sides_in.nd) (gs_nil)))) (fun _ _ _ _ _ => ts_nil) (fun _ _ _ _ _ => e_tup (ea_cons (eo (e_var)) (ea_cons (eo (e_var)) (ea_nil)))))))) (ss_one (s_if (t_eq hr (eo (e_ix (eo_z) (eo (e_int)))) (eo (e_globS T.c_PATCH))) (ss_one (s_expr (e_append (e_tup (ea_cons (eo (e_ix (eo_z) (eo (x_neg (eo (e_int)))))) (ea_cons (eo (e_ix (eo_z) (eo (e_int)))) (ea_nil))))))) (ss_nil))))) (ss_one (s_ret (e_mv)))))
theorem ok_whole_corner (T : Ns mg) (D : Cs Pr w K mg base C k) (F : FnP K "whole_corner" st_whole_corner f fd) : FnOk Pr w K mg base CX0 (k + 2) f fd ["corner", "often"] (spF K [false, false] (fnRun 2 [false, false] (b_whole_corner C))) :=
  fn_ok F sc_whole_corner rfl fun cdv A outer s H E hrL =>
    have hr := hrL.mono (Nat.le_succ k)
    ss_one (s_ret (e_tup (ea_cons (eo (e_call D.f_whole_by hr (ec_vw (eo (e_ix (eo_z) (eo (e_int)))) (ec_vw (eo_p) (ec_nil))))) (ea_cons (eo (e_call D.f_whole_by hr (ec_vw (eo (e_ix (eo_z) (eo (e_int)))) (ec_vw (eo_p) (ec_nil))))) (ea_nil)))))
theorem ok_common_of_corners (T : Ns mg) (D : Cs Pr w K mg base C k) (F : FnP K "common_of_corners" st_common_of_corners f fd) : FnOk Pr w K mg base CX0 (k + 2) f fd ["corners"] (spF K [false] (fnRun 3 [false] (b_common_of_corners C))) :=
  fn_ok F sc_common_of_corners rfl fun cdv A outer s H E hrL =>
    have hr := hrL.mono (Nat.le_succ k)
    ss_cons (s_set (e_lst (ao_nil)) sc_common_of_corners.nd) (ss_cons (s_for .never rfl (it_seq (ek_z)) (g_name sc_common_of_corners.nd) (ss_one (s_expr (e_extend (eo_z))))) (ss_one (s_ret (e_call D.f_common_below hr (ec_vw (eo_z) (ec_nil))))))
theorem ok_sorted_corners (T : Ns mg) (D : Cs Pr w K mg base C k) (F : FnP K "sorted_corners" st_sorted_corners f fd) (hf : f = He.fAd K ("sorted_corners", none)) : FnOk Pr w K mg base CX0 (k + 2) f fd ["corners"] (spF K [false] (fnRun 3 [false] (b_sorted_corners C))) :=
  fn_okL F hf sc_sorted_corners rfl fun A outer s H E hrL =>
    have hr := hrL.mono (Nat.le_succ k)
    ss_cons (s_set (e_call D.f_common_of_corners hr (ec_vw (eo_z) (ec_nil))) sc_sorted_corners.nd) (ss_one (s_ret (e_sortK (qn := "sorted_corners.<locals>.<lambda>") hrL T.n_sorted (eo_z) rfl (nd_ix sc_sorted_corners.nd rfl) (by rfl) D.l_sorted_corners rfl (by rw [D.a_sorted_corners]; decide +kernel) (by rw [D.a_sorted_corners]; decide +kernel) (lamP_by (sc := defScope st_sorted_corners) (by decide +kernel)) rfl (fun _ _ _ _ _ _ => rfl) (fun _ _ _ _ _ _ hr => e_call D.f_whole_corner hr (ec_vw (eo_z) (ec_vw (eo_p) (ec_nil)))))))
theorem ok_each_once (T : Ns mg) (D : Cs Pr w K mg base C k) (F : FnP K "each_once" st_each_once f fd) : FnOk Pr w K mg base CX0 (k + 2) f fd ["things"] (spF K [false] (fnRun 3 [false] (b_each_once C))) :=
  fn_ok F sc_each_once rfl fun cdv A outer s H E hrL =>
    have hr := hrL.mono (Nat.le_succ k)
    ss_one (s_ret (e_lc (P := []) (n := 3) (own := [("place", 1), ("thing", 2)]) rfl rfl rfl sc_each_once.nd (it_enum (ek_z) T.n_enumerate) (blkOk_by (N := N_each_once) (sc := (defScope st_each_once)) (by decide +kernel)) (fun _ _ _ _ _ => g_tup rfl (gs_cons (g_name sc_each_once.nd) (gs_cons (g_name sc_each_once.nd) (gs_nil)))) (fun _ _ _ _ _ => ts_one ((b_or (t_eq hr (eo_p) (eo (e_int))) (b_or1 (t_ne hr (eo_p) (eo (e_ix (eo_z) (eo (x_sub (eo_p) (eo (e_int))))))))).pt)) (fun _ _ _ _ _ => e_var)))
theorem ok_corners_in (T : Ns mg) (D : Cs Pr w K mg base C k) (F : FnP K "corners_in" st_corners_in f fd) : FnOk Pr w K mg base CX0 (k + 2) f fd ["shape"] (spF K [false] (fnRun 1 [false] (b_corners_in C))) :=
  fn_ok F sc_corners_in rfl fun cdv A outer s H E hrL =>
    have hr := hrL.mono (Nat.le_succ k)
    ss_one (s_ret (e_call D.f_each_once hr (ec_vw (eo (e_call D.f_sorted_corners hr (ec_vw (eo (e_call D.f_all_corners hr (ec_vw (eo_z) (ec_nil)))) (ec_nil)))) (ec_nil))))
theorem ok__law_hand (T : Ns mg) (D : Cs Pr w K mg base C k) (F : FnP K "_law_hand" st__law_hand f fd) : FnOk Pr w K mg base CX0 (k + 2) f fd ["_law_script"] (spF K [false] (fnRun 2 [false] (b__law_hand C))) :=
  fn_ok F sc__law_hand rfl fun cdv A outer s H E hrL =>
    have hr := hrL.mono (Nat.le_succ k)
    ss_one (s_ret (e_lst (ao_cons (e_lc (P := []) (n := 2) (own := [("_law_cell", 1)]) rfl rfl rfl sc__law_hand.nd (it_seq (ek (e_sl (eo_z) ept_no (ept (eo (e_int)))))) (blkOk_by (N := N__law_hand) (sc := (defScope st__law_hand)) (by decide +kernel)) (fun _ _ _ _ _ => g_name sc__law_hand.nd) (fun _ _ _ _ _ => ts_nil) (fun _ _ _ _ _ => x_abs T.n_abs (ea_cons (eo_p) (ea_nil)))) (ao_cons (e_int) (ao_cons (e_int) (ao_cons (e_int) (ao_nil)))))))
theorem ok__law_draw (T : Ns mg) (D : Cs Pr w K mg base C k) (F : FnP K "_law_draw" st__law_draw f fd) : FnOk Pr w K mg base CX0 (k + 2) f fd ["_law_hand_here", "_law_many"] (spF K [true, false] (fnRun 6 [true, false] (b__law_draw C))) :=
  fn_ok F sc__law_draw rfl fun cdv A outer s H E hrL =>
    have hr := hrL.mono (Nat.le_succ k)
    ss_cons (s_asg (x_add (eo (e_ix (eo_z) (eo (e_int)))) (eo (e_int))) (g_item (eo (e_int)))) (ss_cons (s_if (t_eq hr (eo (e_ix (eo_z) (eo (e_int)))) (eo (e_int))) (ss_cons (s_set (e_int) sc__law_draw.nd) (ss_cons (s_if (t_gt hr (eo (x_len T.n_len (ea_cons (eo (e_ix (eo_z) (eo (e_int)))) (ea_nil)))) (eo (e_int))) (ss_one (s_set (e_ix (eo (e_ix (eo_z) (eo (e_int)))) (eo (x_mod (eo (e_ix (eo_z) (eo (e_int)))) (eo (x_len T.n_len (ea_cons (eo (e_ix (eo_z) (eo (e_int)))) (ea_nil))))))) sc__law_draw.nd)) (ss_nil)) (ss_cons (s_asg (x_add (eo (e_ix (eo_z) (eo (e_int)))) (eo (e_int))) (g_item (eo (e_int)))) (ss_cons (s_if ((b_or (t_lt hr (eo_p) (eo (x_pow (eo (e_int)) (eo (e_int))))) (b_or1 (t_gt hr (eo (e_ix (eo_z) (eo (e_int)))) (eo (x_len T.n_len (ea_cons (eo (e_ix (eo_z) (eo (e_int)))) (ea_nil))))))).pt) (ss_cons (s_set (x_add (eo (x_add (eo (x_mod (eo_p) (eo (e_int)))) (eo (x_mul (eo (e_int)) (eo (e_ix (eo_z) (eo (e_int)))))))) (eo (e_int))) sc__law_draw.nd) (ss_cons (s_set (x_mod (eo (x_mul (eo_p) (eo (x_add (eo (e_int)) (eo (x_mul (eo (e_int)) (eo (e_ix (eo_z) (eo (e_int)))))))))) (eo (e_int))) sc__law_draw.nd) (ss_cons (s_set (x_mod (eo (x_add (eo (x_mul (eo_p) (eo (x_add (eo (x_mod (eo_p) (eo (e_int)))) (eo (e_ix (eo_z) (eo (e_int)))))))) (eo (x_mul (eo (e_int)) (eo (e_ix (eo_z) (eo (e_int)))))))) (eo (e_int))) sc__law_draw.nd) (ss_one (s_ret (x_mod (eo (x_fdiv (eo_p) (eo (e_int)))) (eo_p))))))) (ss_nil)) (ss_one (s_asg (e_var) (g_item (eo (e_int))))))))) (ss_nil)) (ss_cons (s_set (x_mod (eo (e_ix (eo_z) (eo (e_int)))) (eo_p)) sc__law_draw.nd) (ss_cons (s_asg (x_fdiv (eo (e_ix (eo_z) (eo (e_int)))) (eo_p)) (g_item (eo (e_int)))) (ss_one (s_ret (e_mv))))))
theorem ok__law_both (T : Ns mg) (D : Cs Pr w K mg base C k) (F : FnP K "_law_both" st__law_both f fd) : FnOk Pr w K mg base CX0 (k + 2) f fd ["_law_one", "_law_other"] (spF K [false, false] (fnRun 2 [false, false] (b__law_both C))) :=
  fn_ok F sc__law_both rfl fun cdv A outer s H E hrL =>
    have hr := hrL.mono (Nat.le_succ k)
    ss_cons (s_par rfl sc__law_both.nd (ao_cons (x_abs T.n_abs (ea_cons (eo_p) (ea_nil))) (ao_cons (x_abs T.n_abs (ea_cons (eo_p) (ea_nil))) ao_nil)) rfl) (ss_cons (s_while .never (t_gt hr (eo_p) (eo (e_int))) (ss_one (s_par rfl sc__law_both.nd (ao_cons (e_var) (ao_cons (x_mod (eo_p) (eo_p)) ao_nil)) rfl))) (ss_one (s_ret (e_var))))
theorem ok__law_part (T : Ns mg) (D : Cs Pr w K mg base C k) (F : FnP K "_law_part" st__law_part f fd) : FnOk Pr w K mg base CX0 (k + 2) f fd ["_law_top", "_law_below"] (spF K [false, false] (fnRun 3 [false, false] (b__law_part C))) :=
  fn_ok F sc__law_part rfl fun cdv A outer s H E hrL =>
    have hr := hrL.mono (Nat.le_succ k)
    ss_cons (s_if (t_lt hr (eo_p) (eo (e_int))) (ss_one (s_par rfl sc__law_part.nd (ao_cons (x_neg (eo_p)) (ao_cons (x_neg (eo_p)) ao_nil)) rfl)) (ss_nil)) (ss_cons (s_set (e_call D.f__law_both hr (ec_vw (eo (e_var)) (ec_vw (eo (e_var)) (ec_nil)))) sc__law_part.nd) (ss_one (s_ret (e_if (t_eq hr (eo_p) (eo_p)) (x_fdiv (eo_p) (eo_p)) (e_tup (ea_cons (eo (x_fdiv (eo_p) (eo_p))) (ea_cons (eo (x_fdiv (eo_p) (eo_p))) (ea_nil))))))))
theorem ok__law_split (T : Ns mg) (D : Cs Pr w K mg base C k) (F : FnP K "_law_split" st__law_split f fd) : FnOk Pr w K mg base CX0 (k + 2) f fd ["_law_number_here"] (spF K [false] (fnRun 1 [false] (b__law_split C))) :=
  fn_ok F sc__law_split rfl fun cdv A outer s H E hrL =>
    have hr := hrL.mono (Nat.le_succ k)
    ss_one (s_ret (e_if (EO.tru (eo (e_isi (eo_p) k_tup T.n_isinstance T.n_tuple))) (e_var) (e_tup (ea_cons (eo (e_var)) (ea_cons (eo (e_int)) (ea_nil))))))
theorem ok__law_number (T : Ns mg) (D : Cs Pr w K mg base C k) (F : FnP K "_law_number" st__law_number f fd) : FnOk Pr w K mg base CX0 (k + 2) f fd ["_law_hand_here", "_law_span_here"] (spF K [true, false] (fnRun 5 [true, false] (b__law_number C))) :=
  fn_ok F sc__law_number rfl fun cdv A outer s H E hrL =>
    have hr := hrL.mono (Nat.le_succ k)
    ss_cons (s_set (x_sub (eo (e_call D.f__law_draw hr (ec_mu (ec_vw (eo (x_add (eo (x_mul (eo (e_int)) (eo_p))) (eo (e_int)))) (ec_nil))))) (eo_p)) sc__law_number.nd) (ss_cons (s_set (e_call D.f__law_draw hr (ec_mu (ec_vw (eo (e_int)) (ec_nil)))) sc__law_number.nd) (ss_cons (s_if (t_gt hr (eo_p) (eo (e_int))) (ss_one (s_ret (e_mv))) (ss_nil)) (ss_cons (s_if (t_eq hr (eo_p) (eo (e_int))) (ss_cons (s_set (x_add (eo (x_sub (eo (x_mul (eo (e_int)) (eo (x_pow (eo (e_int)) (eo (e_int)))))) (eo (e_int)))) (eo (e_call D.f__law_draw hr (ec_mu (ec_vw (eo (e_int)) (ec_nil)))))) sc__law_number.nd) (ss_one (s_ret (e_call D.f__law_part hr (ec_vw (eo (e_var)) (ec_vw (eo (x_add (eo (x_mul (eo (e_int)) (eo_p))) (eo (e_int)))) (ec_nil))))))) (ss_nil)) (ss_one (s_ret (e_call D.f__law_part hr (ec_vw (eo (e_var)) (ec_vw (eo (e_ix (eo (e_lst (ao_cons (e_int) (ao_cons (e_int) (ao_cons (e_int) (ao_cons (e_int) (ao_cons (e_int) (ao_cons (e_int) (ao_cons (e_int) (ao_cons (e_int) (ao_nil))))))))))) (eo (e_call D.f__law_draw hr (ec_mu (ec_vw (eo (e_int)) (ec_nil))))))) (ec_nil)))))))))
theorem ok__law_span (T : Ns mg) (D : Cs Pr w K mg base C k) (F : FnP K "_law_span" st__law_span f fd) : FnOk Pr w K mg base CX0 (k + 2) f fd ["_law_hand_here"] (spF K [true] (fnRun 1 [true] (b__law_span C))) :=
  fn_ok F sc__law_span rfl fun cdv A outer s H E hrL =>
    have hr := hrL.mono (Nat.le_succ k)
    ss_one (s_ret (e_ix (eo (e_lst (ao_cons (e_int) (ao_cons (e_int) (ao_cons (e_int) (ao_cons (e_int) (ao_cons (e_int) (ao_cons (e_int) (ao_cons (e_int) (ao_cons (e_int) (ao_nil))))))))))) (eo (e_call D.f__law_draw hr (ec_mu (ec_vw (eo (e_int)) (ec_nil)))))))
theorem ok__law_corner (T : Ns mg) (D : Cs Pr w K mg base C k) (F : FnP K "_law_corner" st__law_corner f fd) : FnOk Pr w K mg base CX0 (k + 2) f fd ["_law_hand_here", "_law_span_here"] (spF K [true, false] (fnRun 2 [true, false] (b__law_corner C))) :=
  fn_ok F sc__law_corner rfl fun cdv A outer s H E hrL =>
    have hr := hrL.mono (Nat.le_succ k)
    ss_one (s_ret (e_tup (ea_cons (eo (e_call D.f__law_number hr (ec_mu (ec_vw (eo_p) (ec_nil))))) (ea_cons (eo (e_call D.f__law_number hr (ec_mu (ec_vw (eo_p) (ec_nil))))) (ea_nil)))))
theorem ok__law_points (T : Ns mg) (D : Cs Pr w K mg base C k) (F : FnP K "_law_points" st__law_points f fd) : FnOk Pr w K mg base CX0 (k + 2) f fd ["_law_hand_here", "_law_span_here", "_law_most"] (spF K [true, false, false] (fnRun 6 [true, false, false] (b__law_points C))) :=
  fn_ok F sc__law_points rfl fun cdv A outer s H E hrL =>
    have hr := hrL.mono (Nat.le_succ k)
    ss_cons (s_set (e_lc (P := []) (n := 6) (own := [("_law_k", 4)]) rfl rfl rfl sc__law_points.nd (it_range1 (ek (x_add (eo (e_int)) (eo (e_call D.f__law_draw hr (ec_mu (ec_vw (eo_p) (ec_nil))))))) T.n_range) (blkOk_by (N := N__law_points) (sc := (defScope st__law_points)) (by decide +kernel)) (fun _ _ _ _ _ => g_name sc__law_points.nd) (fun _ _ _ _ _ => ts_nil) (fun _ _ _ _ _ => e_call D.f__law_corner hr (ec_mu (ec_vw (eo_p) (ec_nil))))) sc__law_points.nd) (ss_one (s_ret (e_tup (ea_cons (eo (e_str)) (ea_cons (eo (x_tuple T.n_tuple (ea_cons (eo (e_lc (P := []) (n := 6) (own := [("_law_k", 4), ("_law_one", 5)]) rfl rfl rfl sc__law_points.nd (it_enum (ek_z) T.n_enumerate) (blkOk_by (N := N__law_points) (sc := (defScope st__law_points)) (by decide +kernel)) (fun _ _ _ _ _ => g_tup rfl (gs_cons (g_name sc__law_points.nd) (gs_cons (g_name sc__law_points.nd) (gs_nil)))) (fun _ _ _ _ _ => ts_one (t_nin hr (eo_p) (eo (e_sl (eo_z) ept_no (ept (eo_p)))))) (fun _ _ _ _ _ => e_var))) (ea_nil)))) (ea_nil))))))
theorem ok__law_beside (T : Ns mg) (D : Cs Pr w K mg base C k) (F : FnP K "_law_beside" st__law_beside f fd) : FnOk Pr w K mg base CX0 (k + 2) f fd ["_law_number_here"] (spF K [false] (fnRun 3 [false] (b__law_beside C))) :=
  fn_ok F sc__law_beside rfl fun cdv A outer s H E hrL =>
    have hr := hrL.mono (Nat.le_succ k)
    ss_cons (s_asg (e_call D.f__law_split hr (ec_vw (eo (e_var)) (ec_nil))) (g_tup rfl (gs_cons (g_name sc__law_beside.nd) (gs_cons (g_name sc__law_beside.nd) (gs_nil))))) (ss_one (s_ret (e_call D.f__law_part hr (ec_vw (eo (e_if (t_gt hr (eo_p) (eo (e_int))) (x_sub (eo_p) (eo_p)) (x_add (eo_z) (eo_z)))) (ec_vw (eo (e_var)) (ec_nil))))))
theorem ok__law_row (T : Ns mg) (D : Cs Pr w K mg base C k) (F : FnP K "_law_row" st__law_row f fd) : FnOk Pr w K mg base CX0 (k + 2) f fd ["_law_hand_here", "_law_span_here", "_law_most"] (spF K [true, false, false] (fnRun 6 [true, false, false] (b__law_row C))) :=
  fn_ok F sc__law_row rfl fun cdv A outer s H E hrL =>
    have hr := hrL.mono (Nat.le_succ k)
    ss_cons (s_set (e_lst (ao_cons (e_call D.f__law_corner hr (ec_mu (ec_vw (eo_p) (ec_nil)))) (ao_nil))) sc__law_row.nd) (ss_cons (s_for .never rfl (it_range1 (ek (x_add (eo (e_int)) (eo (e_call D.f__law_draw hr (ec_mu (ec_vw (eo (x_sub (eo_p) (eo (e_int)))) (ec_nil))))))) T.n_range) (g_name sc__law_row.nd) (ss_cons (s_set (e_call D.f__law_corner hr (ec_mu (ec_vw (eo_p) (ec_nil)))) sc__law_row.nd) (ss_cons (s_if (t_eq hr (eo_p) (eo (e_ix (eo_z) (eo (x_neg (eo (e_int))))))) (ss_one (s_set (e_tup (ea_cons (eo (e_ix (eo_z) (eo (e_int)))) (ea_cons (eo (e_call D.f__law_beside hr (ec_vw (eo (e_ix (eo_z) (eo (e_int)))) (ec_nil)))) (ea_nil)))) sc__law_row.nd)) (ss_nil)) (ss_one (s_expr (e_append (e_var))))))) (ss_cons (s_if ((b_and (t_eq hr (eo (e_call D.f__law_draw hr (ec_mu (ec_vw (eo (e_int)) (ec_nil))))) (eo (e_int))) (b_and1 (t_ne hr (eo (e_ix (eo_z) (eo (x_neg (eo (e_int)))))) (eo (e_ix (eo_z) (eo (e_int))))))).pt) (ss_one (s_expr (e_append (e_ix (eo_z) (eo (e_int)))))) (ss_nil)) (ss_one (s_ret (x_tuple T.n_tuple (ea_cons (eo_z) (ea_nil)))))))
theorem ok__law_rows (T : Ns mg) (D : Cs Pr w K mg base C k) (F : FnP K "_law_rows" st__law_rows f fd) : FnOk Pr w K mg base CX0 (k + 2) f fd ["_law_hand_here", "_law_span_here", "_law_most", "_law_many"] (spF K [true, false, false, false] (fnRun 5 [true, false, false, false] (b__law_rows C))) :=
  fn_ok F sc__law_rows rfl fun cdv A outer s H E hrL =>
    have hr := hrL.mono (Nat.le_succ k)
    ss_one (s_ret (e_tup (ea_cons (eo (e_str)) (ea_cons (eo (x_tuple T.n_tuple (ea_cons (eo (e_lc (P := []) (n := 5) (own := [("_law_k", 4)]) rfl rfl rfl sc__law_rows.nd (it_range1 (ek (x_add (eo (e_int)) (eo (e_call D.f__law_draw hr (ec_mu (ec_vw (eo_p) (ec_nil))))))) T.n_range) (blkOk_by (N := N__law_rows) (sc := (defScope st__law_rows)) (by decide +kernel)) (fun _ _ _ _ _ => g_name sc__law_rows.nd) (fun _ _ _ _ _ => ts_nil) (fun _ _ _ _ _ => e_call D.f__law_row hr (ec_mu (ec_vw (eo_p) (ec_vw (eo_p) (ec_nil))))))) (ea_nil)))) (ea_nil)))))
theorem ok__law_rings (T : Ns mg) (D : Cs Pr w K mg base C k) (F : FnP K "_law_rings" st__law_rings f fd) : FnOk Pr w K mg base CX0 (k + 2) f fd ["_law_hand_here"] (spF K [true] (fnRun 4 [true] (b__law_rings C))) :=
  fn_ok F sc__law_rings rfl fun cdv A outer s H E hrL =>
    have hr := hrL.mono (Nat.le_succ k)
    ss_cons (s_set (e_tup (ea_cons (eo (e_tup (ea_cons (eo (e_int)) (ea_cons (eo (e_int)) (ea_nil))))) (ea_cons (eo (e_tup (ea_cons (eo (e_int)) (ea_cons (eo (e_int)) (ea_nil))))) (ea_cons (eo (e_tup (ea_cons (eo (e_int)) (ea_cons (eo (e_int)) (ea_nil))))) (ea_cons (eo (e_tup (ea_cons (eo (e_int)) (ea_cons (eo (e_int)) (ea_nil))))) (ea_nil)))))) sc__law_rings.nd) (ss_cons (s_set (e_lst (ao_cons (e_lst (ao_cons (e_var) (ao_nil))) (ao_cons (e_lst (ao_cons (e_tup (ea_cons (eo (e_tup (ea_cons (eo (e_int)) (ea_cons (eo (e_int)) (ea_nil))))) (ea_cons (eo (e_tup (ea_cons (eo (e_int)) (ea_cons (eo (e_int)) (ea_nil))))) (ea_cons (eo (e_tup (ea_cons (eo (e_int)) (ea_cons (eo (e_int)) (ea_nil))))) (ea_nil))))) (ao_nil))) (ao_cons (e_lst (ao_cons (e_tup (ea_cons (eo (e_tup (ea_cons (eo (e_int)) (ea_cons (eo (e_int)) (ea_nil))))) (ea_cons (eo (e_tup (ea_cons (eo (e_int)) (ea_cons (eo (e_int)) (ea_nil))))) (ea_cons (eo (e_tup (ea_cons (eo (e_int)) (ea_cons (eo (e_int)) (ea_nil))))) (ea_cons (eo (e_tup (ea_cons (eo (e_int)) (ea_cons (eo (e_int)) (ea_nil))))) (ea_cons (eo (e_tup (ea_cons (eo (e_int)) (ea_cons (eo (e_int)) (ea_nil))))) (ea_cons (eo (e_tup (ea_cons (eo (e_int)) (ea_cons (eo (e_int)) (ea_nil))))) (ea_nil)))))))) (ao_nil))) (ao_nil))))) sc__law_rings.nd) (ss_cons (s_expr (e_append (e_lst (ao_cons (e_tup (ea_cons (eo (e_tup (ea_cons (eo (e_int)) (ea_cons (eo (e_int)) (ea_nil))))) (ea_cons (eo (e_tup (ea_cons (eo (e_int)) (ea_cons (eo (e_int)) (ea_nil))))) (ea_cons (eo (e_tup (ea_cons (eo (e_int)) (ea_cons (eo (e_int)) (ea_nil))))) (ea_cons (eo (e_tup (ea_cons (eo (e_int)) (ea_cons (eo (e_int)) (ea_nil))))) (ea_nil)))))) (ao_cons (e_tup (ea_cons (eo (e_tup (ea_cons (eo (e_int)) (ea_cons (eo (e_int)) (ea_nil))))) (ea_cons (eo (e_tup (ea_cons (eo (e_int)) (ea_cons (eo (e_int)) (ea_nil))))) (ea_cons (eo (e_tup (ea_cons (eo (e_int)) (ea_cons (eo (e_int)) (ea_nil))))) (ea_cons (eo (e_tup (ea_cons (eo (e_int)) (ea_cons (eo (e_int)) (ea_nil))))) (ea_nil)))))) (ao_nil)))))) (ss_cons (s_expr (e_append (e_lst (ao_cons (e_var) (ao_cons (e_tup (ea_cons (eo (e_tup (ea_cons (eo (e_int)) (ea_cons (eo (e_int)) (ea_nil))))) (ea_cons (eo (e_tup (ea_cons (eo (e_int)) (ea_cons (eo (e_int)) (ea_nil))))) (ea_cons (eo (e_tup (ea_cons (eo (e_int)) (ea_cons (eo (e_int)) (ea_nil))))) (ea_nil))))) (ao_nil)))))) (ss_cons (s_expr (e_append (e_lst (ao_cons (e_tup (ea_cons (eo (e_tup (ea_cons (eo (e_int)) (ea_cons (eo (e_int)) (ea_nil))))) (ea_cons (eo (e_tup (ea_cons (eo (e_int)) (ea_cons (eo (e_int)) (ea_nil))))) (ea_cons (eo (e_tup (ea_cons (eo (e_int)) (ea_cons (eo (e_int)) (ea_nil))))) (ea_cons (eo (e_tup (ea_cons (eo (e_int)) (ea_cons (eo (e_int)) (ea_nil))))) (ea_nil)))))) (ao_cons (e_tup (ea_cons (eo (e_tup (ea_cons (eo (e_int)) (ea_cons (eo (e_int)) (ea_nil))))) (ea_cons (eo (e_tup (ea_cons (eo (e_int)) (ea_cons (eo (e_int)) (ea_nil))))) (ea_cons (eo (e_tup (ea_cons (eo (e_int)) (ea_cons (eo (e_int)) (ea_nil))))) (ea_cons (eo (e_tup (ea_cons (eo (e_int)) (ea_cons (eo (e_int)) (ea_nil))))) (ea_nil)))))) (ao_nil)))))) (ss_cons (s_expr (e_append (e_lst (ao_cons (e_tup (ea_cons (eo (e_tup (ea_cons (eo (e_int)) (ea_cons (eo (e_int)) (ea_nil))))) (ea_cons (eo (e_tup (ea_cons (eo (e_int)) (ea_cons (eo (e_int)) (ea_nil))))) (ea_cons (eo (e_tup (ea_cons (eo (e_int)) (ea_cons (eo (e_int)) (ea_nil))))) (ea_cons (eo (e_tup (ea_cons (eo (e_int)) (ea_cons (eo (e_int)) (ea_nil))))) (ea_cons (eo (e_tup (ea_cons (eo (e_int)) (ea_cons (eo (e_int)) (ea_nil))))) (ea_cons (eo (e_tup (ea_cons (eo (e_int)) (ea_cons (eo (e_int)) (ea_nil))))) (ea_nil)))))))) (ao_nil))))) (ss_cons (s_expr (e_append (e_lst (ao_cons (e_var) (ao_cons (e_tup (ea_cons (eo (e_tup (ea_cons (eo (e_int)) (ea_cons (eo (e_int)) (ea_nil))))) (ea_cons (eo (e_tup (ea_cons (eo (e_int)) (ea_cons (eo (e_int)) (ea_nil))))) (ea_cons (eo (e_tup (ea_cons (eo (e_int)) (ea_cons (eo (e_int)) (ea_nil))))) (ea_cons (eo (e_tup (ea_cons (eo (e_int)) (ea_cons (eo (e_int)) (ea_nil))))) (ea_nil)))))) (ao_cons (e_tup (ea_cons (eo (e_tup (ea_cons (eo (e_int)) (ea_cons (eo (e_int)) (ea_nil))))) (ea_cons (eo (e_tup (ea_cons (eo (e_int)) (ea_cons (eo (e_int)) (ea_nil))))) (ea_cons (eo (e_tup (ea_cons (eo (e_int)) (ea_cons (eo (e_int)) (ea_nil))))) (ea_cons (eo (e_tup (ea_cons (eo (e_int)) (ea_cons (eo (e_int)) (ea_nil))))) (ea_nil)))))) (ao_nil))))))) (ss_cons (s_expr (e_append (e_lst (ao_cons (e_tup (ea_cons (eo (e_tup (ea_cons (eo (e_int)) (ea_cons (eo (e_int)) (ea_nil))))) (ea_cons (eo (e_tup (ea_cons (eo (e_int)) (ea_cons (eo (e_int)) (ea_nil))))) (ea_cons (eo (e_tup (ea_cons (eo (e_int)) (ea_cons (eo (e_int)) (ea_nil))))) (ea_cons (eo (e_tup (ea_cons (eo (e_int)) (ea_cons (eo (e_int)) (ea_nil))))) (ea_nil)))))) (ao_cons (e_tup (ea_cons (eo (e_tup (ea_cons (eo (e_int)) (ea_cons (eo (e_int)) (ea_nil))))) (ea_cons (eo (e_tup (ea_cons (eo (e_int)) (ea_cons (eo (e_int)) (ea_nil))))) (ea_cons (eo (e_tup (ea_cons (eo (e_int)) (ea_cons (eo (e_int)) (ea_nil))))) (ea_cons (eo (e_tup (ea_cons (eo (e_int)) (ea_cons (eo (e_int)) (ea_nil))))) (ea_nil)))))) (ao_cons (e_tup (ea_cons (eo (e_tup (ea_cons (eo (e_int)) (ea_cons (eo (e_int)) (ea_nil))))) (ea_cons (eo (e_tup (ea_cons (eo (e_int)) (ea_cons (eo (e_int)) (ea_nil))))) (ea_cons (eo (e_tup (ea_cons (eo (e_int)) (ea_cons (eo (e_int)) (ea_nil))))) (ea_nil))))) (ao_nil))))))) (ss_cons (s_expr (e_append (e_lst (ao_cons (e_tup (ea_cons (eo (e_tup (ea_cons (eo (e_int)) (ea_cons (eo (e_int)) (ea_nil))))) (ea_cons (eo (e_tup (ea_cons (eo (e_int)) (ea_cons (eo (e_int)) (ea_nil))))) (ea_cons (eo (e_tup (ea_cons (eo (e_int)) (ea_cons (eo (e_int)) (ea_nil))))) (ea_cons (eo (e_tup (ea_cons (eo (e_int)) (ea_cons (eo (e_int)) (ea_nil))))) (ea_nil)))))) (ao_cons (e_tup (ea_cons (eo (e_tup (ea_cons (eo (e_int)) (ea_cons (eo (e_int)) (ea_nil))))) (ea_cons (eo (e_tup (ea_cons (eo (e_int)) (ea_cons (eo (e_int)) (ea_nil))))) (ea_cons (eo (e_tup (ea_cons (eo (e_int)) (ea_cons (eo (e_int)) (ea_nil))))) (ea_cons (eo (e_tup (ea_cons (eo (e_int)) (ea_cons (eo (e_int)) (ea_nil))))) (ea_nil)))))) (ao_cons (e_tup (ea_cons (eo (e_tup (ea_cons (eo (e_int)) (ea_cons (eo (e_int)) (ea_nil))))) (ea_cons (eo (e_tup (ea_cons (eo (e_int)) (ea_cons (eo (e_int)) (ea_nil))))) (ea_cons (eo (e_tup (ea_cons (eo (e_int)) (ea_cons (eo (e_int)) (ea_nil))))) (ea_nil))))) (ao_nil))))))) (ss_cons (s_expr (e_append (e_lc (P := []) (n := 4) (own := [("_law_k", 3)]) rfl rfl rfl sc__law_rings.nd (it_range1 (ek (e_int)) T.n_range) (blkOk_by (N := N__law_rings) (sc := (defScope st__law_rings)) (by decide +kernel)) (fun _ _ _ _ _ => g_name sc__law_rings.nd) (fun _ _ _ _ _ => ts_nil) (fun _ _ _ _ _ => e_tup (ea_cons (eo (e_tup (ea_cons (eo (x_mul (eo (e_int)) (eo_p))) (ea_cons (eo (x_mod (eo_p) (eo (e_int)))) (ea_nil))))) (ea_cons (eo (e_tup (ea_cons (eo (x_add (eo (x_mul (eo (e_int)) (eo_p))) (eo (e_int)))) (ea_cons (eo (e_int)) (ea_nil))))) (ea_cons (eo (e_tup (ea_cons (eo (x_add (eo (x_mul (eo (e_int)) (eo_p))) (eo (e_int)))) (ea_cons (eo (e_int)) (ea_nil))))) (ea_nil)))))))) (ss_one (s_ret (e_ix (eo_z) (eo (e_call D.f__law_draw hr (ec_mu (ec_vw (eo (e_int)) (ec_nil)))))))))))))))))
theorem ok__law_patch (T : Ns mg) (D : Cs Pr w K mg base C k) (F : FnP K "_law_patch" st__law_patch f fd) : FnOk Pr w K mg base CX0 (k + 2) f fd ["_law_hand_here", "_law_span_here"] (spF K [true, false] (fnRun 16 [true, false] (b__law_patch C))) :=
  fn_ok F sc__law_patch rfl fun cdv A outer s H E hrL =>
    have hr := hrL.mono (Nat.le_succ k)
    ss_cons (s_set (e_lst (ao_cons (e_tup (ea_cons (eo (e_int)) (ea_cons (eo (e_int)) (ea_cons (eo (e_int)) (ea_cons (eo (e_int)) (ea_nil)))))) (ao_cons (e_tup (ea_cons (eo (e_int)) (ea_cons (eo (x_neg (eo (e_int)))) (ea_cons (eo (e_int)) (ea_cons (eo (e_int)) (ea_nil)))))) (ao_cons (e_tup (ea_cons (eo (e_int)) (ea_cons (eo (e_int)) (ea_cons (eo (e_int)) (ea_cons (eo (e_int)) (ea_nil)))))) (ao_cons (e_tup (ea_cons (eo (e_int)) (ea_cons (eo (e_int)) (ea_cons (eo (e_int)) (ea_cons (eo (e_int)) (ea_nil)))))) (ao_cons (e_tup (ea_cons (eo (e_int)) (ea_cons (eo (e_int)) (ea_cons (eo (x_neg (eo (e_int)))) (ea_cons (eo (e_int)) (ea_nil)))))) (ao_cons (e_tup (ea_cons (eo (x_neg (eo (e_int)))) (ea_cons (eo (e_int)) (ea_cons (eo (e_int)) (ea_cons (eo (e_int)) (ea_nil)))))) (ao_nil)))))))) sc__law_patch.nd) (ss_cons (s_asg (e_ix (eo_z) (eo (e_call D.f__law_draw hr (ec_mu (ec_vw (eo (e_int)) (ec_nil)))))) (g_tup rfl (gs_cons (g_name sc__law_patch.nd) (gs_cons (g_name sc__law_patch.nd) (gs_cons (g_name sc__law_patch.nd) (gs_cons (g_name sc__law_patch.nd) (gs_nil))))))) (ss_cons (s_set (e_ix (eo (e_lst (ao_cons (e_int) (ao_cons (e_int) (ao_cons (e_int) (ao_cons (e_int) (ao_cons (e_int) (ao_cons (e_int) (ao_nil))))))))) (eo (e_call D.f__law_draw hr (ec_mu (ec_vw (eo (e_int)) (ec_nil)))))) sc__law_patch.nd) (ss_cons (s_asg (e_tup (ea_cons (eo (x_sub (eo (e_call D.f__law_draw hr (ec_mu (ec_vw (eo (x_add (eo (x_mul (eo (e_int)) (eo_p))) (eo (e_int)))) (ec_nil))))) (eo_p))) (ea_cons (eo (x_sub (eo (e_call D.f__law_draw hr (ec_mu (ec_vw (eo (x_add (eo (x_mul (eo (e_int)) (eo_p))) (eo (e_int)))) (ec_nil))))) (eo_p))) (ea_nil)))) (g_tup rfl (gs_cons (g_name sc__law_patch.nd) (gs_cons (g_name sc__law_patch.nd) (gs_nil))))) (ss_cons (s_set (e_lst (ao_nil)) sc__law_patch.nd) (ss_cons (s_for .never rfl (it_seq (ek (e_call D.f__law_rings hr (ec_mu (ec_nil))))) (g_name sc__law_patch.nd) (ss_cons (s_setLc (n := 16) (own := [("_law_p", 13), ("_law_q", 14)]) rfl rfl (by decide) rfl sc__law_patch.nd rfl rfl rfl (it_seq (ek_z)) (blkOk_by (N := N__law_patch) (sc := (defScope st__law_patch)) (by decide +kernel)) (fun _ _ _ _ _ => g_tup rfl (gs_cons (g_name sc__law_patch.nd) (gs_cons (g_name sc__law_patch.nd) (gs_nil)))) (fun _ _ _ _ _ => ts_nil) (fun _ _ _ _ _ => e_tup (ea_cons (eo (e_call D.f__law_part hr (ec_vw (eo (x_add (eo (x_add (eo (x_mul (eo_p) (eo_p))) (eo (x_mul (eo_p) (eo_p))))) (eo_z))) (ec_vw (eo (e_var)) (ec_nil))))) (ea_cons (eo (e_call D.f__law_part hr (ec_vw (eo (x_add (eo (x_add (eo (x_mul (eo_p) (eo_p))) (eo (x_mul (eo_p) (eo_p))))) (eo_z))) (ec_vw (eo (e_var)) (ec_nil))))) (ea_nil))))) (ss_cons (s_set (e_call D.f__law_draw hr (ec_mu (ec_vw (eo (x_len T.n_len (ea_cons (eo_p) (ea_nil)))) (ec_nil)))) sc__law_patch.nd) (ss_cons (s_set (x_add (eo (e_sl (eo_z) (ept (eo_p)) ept_no)) (eo (e_sl (eo_z) ept_no (ept (eo_p))))) sc__law_patch.nd) (ss_cons (s_if (t_eq hr (eo (e_call D.f__law_draw hr (ec_mu (ec_vw (eo (e_int)) (ec_nil))))) (eo (e_int))) (ss_one (s_expr (e_reverse))) (ss_nil)) (ss_one (s_expr (e_append (x_tuple T.n_tuple (ea_cons (eo_z) (ea_nil))))))))))) (ss_one (s_ret (e_tup (ea_cons (eo (e_str)) (ea_cons (eo (x_tuple T.n_tuple (ea_cons (eo_z) (ea_nil)))) (ea_nil)))))))))))
theorem ok__law_shape (T : Ns mg) (D : Cs Pr w K mg base C k) (F : FnP K "_law_shape" st__law_shape f fd) : FnOk Pr w K mg base CX0 (k + 2) f fd ["_law_hand_here"] (spF K [true] (fnRun 5 [true] (b__law_shape C))) :=
  fn_ok F sc__law_shape rfl fun cdv A outer s H E hrL =>
    have hr := hrL.mono (Nat.le_succ k)
    ss_cons (s_set (e_call D.f__law_span hr (ec_mu (ec_nil))) sc__law_shape.nd) (ss_cons (s_set (e_call D.f__law_draw hr (ec_mu (ec_vw (eo (e_int)) (ec_nil)))) sc__law_shape.nd) (ss_cons (s_if (t_eq hr (eo_p) (eo (e_int))) (ss_one (s_ret (e_call D.f__law_points hr (ec_mu (ec_vw (eo_p) (ec_vw (eo (e_ix (eo (e_lst (ao_cons (e_int) (ao_cons (e_int) (ao_nil))))) (eo (e_call D.f__law_draw hr (ec_mu (ec_vw (eo (e_int)) (ec_nil))))))) (ec_nil))))))) (ss_nil)) (ss_cons (s_if (t_eq hr (eo_p) (eo (e_int))) (ss_cons (s_asg (e_ix (eo (e_lst (ao_cons (e_tup (ea_cons (eo (e_int)) (ea_cons (eo (e_int)) (ea_nil)))) (ao_cons (e_tup (ea_cons (eo (e_int)) (ea_cons (eo (e_int)) (ea_nil)))) (ao_cons (e_tup (ea_cons (eo (e_int)) (ea_cons (eo (e_int)) (ea_nil)))) (ao_cons (e_tup (ea_cons (eo (e_int)) (ea_cons (eo (e_int)) (ea_nil)))) (ao_nil))))))) (eo (e_call D.f__law_draw hr (ec_mu (ec_vw (eo (e_int)) (ec_nil)))))) (g_tup rfl (gs_cons (g_name sc__law_shape.nd) (gs_cons (g_name sc__law_shape.nd) (gs_nil))))) (ss_one (s_ret (e_call D.f__law_rows hr (ec_mu (ec_vw (eo_p) (ec_vw (eo_p) (ec_vw (eo_p) (ec_nil))))))))) (ss_nil)) (ss_one (s_ret (e_call D.f__law_patch hr (ec_mu (ec_vw (eo (x_min2A rfl hr T.n_min (ea_cons (eo_p) (ea_cons (eo (e_int)) (ea_nil))))) (ec_nil)))))))))
theorem ok__law_less (T : Ns mg) (D : Cs Pr w K mg base C k) (F : FnP K "_law_less" st__law_less f fd) : FnOk Pr w K mg base CX0 (k + 2) f fd ["_law_one", "_law_other"] (spF K [false, false] (fnRun 6 [false, false] (b__law_less C))) :=
  fn_ok F sc__law_less rfl fun cdv A outer s H E hrL =>
    have hr := hrL.mono (Nat.le_succ k)
    ss_cons (s_asg (e_call D.f__law_split hr (ec_vw (eo (e_var)) (ec_nil))) (g_tup rfl (gs_cons (g_name sc__law_less.nd) (gs_cons (g_name sc__law_less.nd) (gs_nil))))) (ss_cons (s_asg (e_call D.f__law_split hr (ec_vw (eo (e_var)) (ec_nil))) (g_tup rfl (gs_cons (g_name sc__law_less.nd) (gs_cons (g_name sc__law_less.nd) (gs_nil))))) (ss_one (s_ret (x_lt hr (eo (x_mul (eo_p) (eo_p))) (eo (x_mul (eo_p) (eo_p)))))))
theorem ok__law_ahead (T : Ns mg) (D : Cs Pr w K mg base C k) (F : FnP K "_law_ahead" st__law_ahead f fd) : FnOk Pr w K mg base CX0 (k + 2) f fd ["_law_one", "_law_other"] (spF K [false, false] (fnRun 2 [false, false] (b__law_ahead C))) :=
  fn_ok F sc__law_ahead rfl fun cdv A outer s H E hrL =>
    have hr := hrL.mono (Nat.le_succ k)
    ss_cons (s_if (t_ne hr (eo (e_ix (eo_z) (eo (e_int)))) (eo (e_ix (eo_z) (eo (e_int))))) (ss_one (s_ret (e_call D.f__law_less hr (ec_vw (eo (e_ix (eo_z) (eo (e_int)))) (ec_vw (eo (e_ix (eo_z) (eo (e_int)))) (ec_nil)))))) (ss_nil)) (ss_one (s_ret (e_call D.f__law_less hr (ec_vw (eo (e_ix (eo_z) (eo (e_int)))) (ec_vw (eo (e_ix (eo_z) (eo (e_int)))) (ec_nil))))))
theorem ok__law_corners (T : Ns mg) (D : Cs Pr w K mg base C k) (F : FnP K "_law_corners" st__law_corners f fd) : FnOk Pr w K mg base CX0 (k + 2) f fd ["_law_shape_here"] (spF K [false] (fnRun 3 [false] (b__law_corners C))) :=
  fn_ok F sc__law_corners rfl fun cdv A outer s H E hrL =>
    have hr := hrL.mono (Nat.le_succ k)
    ss_cons (s_if (t_eq hr (eo (e_ix (eo_z) (eo (e_int)))) (eo (e_str))) (ss_one (s_ret (x_list T.n_list (ea_cons (eo (e_ix (eo_z) (eo (e_int)))) (ea_nil))))) (ss_nil)) (ss_cons (s_set (e_lst (ao_nil)) sc__law_corners.nd) (ss_cons (s_for .never rfl (it_seq (ek (e_ix (eo_z) (eo (e_int))))) (g_name sc__law_corners.nd) (ss_one (s_expr (e_extend (eo_z))))) (ss_one (s_ret (e_mv)))))
theorem ok__law_same (T : Ns mg) (D : Cs Pr w K mg base C k) (F : FnP K "_law_same" st__law_same f fd) : FnOk Pr w K mg base CX0 (k + 2) f fd ["_law_found", "_law_due"] (spF K [false, false] (fnRun 4 [false, false] (b__law_same C))) :=
  fn_ok F sc__law_same rfl fun cdv A outer s H E hrL =>
    have hr := hrL.mono (Nat.le_succ k)
    ss_cons (s_if (EO.tru (eo (e_isi2 (eo_p) k_lst k_tup T.n_isinstance T.n_list T.n_tuple))) (ss_cons (s_if ((b_or (t_ne hr (eo (e_isi (eo_p) k_lst T.n_isinstance T.n_list)) (eo (e_isi (eo_p) k_lst T.n_isinstance T.n_list))) (b_or1 (t_ne hr (eo (e_isi (eo_p) k_tup T.n_isinstance T.n_tuple)) (eo (e_isi (eo_p) k_tup T.n_isinstance T.n_tuple))))).pt) (ss_one (s_ret (e_bl))) (ss_nil)) (ss_one (s_ret (e_and (x_eq hr (eo (x_len T.n_len (ea_cons (eo_p) (ea_nil)))) (eo (x_len T.n_len (ea_cons (eo_p) (ea_nil))))) (e_one (x_all rfl T.n_all (ea_cons (eo (e_lc (P := []) (n := 4) (own := [("_law_one", 2), ("_law_other", 3)]) rfl rfl rfl sc__law_same.nd (it_zip (ek_z) (ek_z) T.n_zip) (blkOk_by (N := N__law_same) (sc := (defScope st__law_same)) (by decide +kernel)) (fun _ _ _ _ _ => g_tup rfl (gs_cons (g_name sc__law_same.nd) (gs_cons (g_name sc__law_same.nd) (gs_nil)))) (fun _ _ _ _ _ => ts_nil) (fun _ _ _ _ _ => e_call D.f__law_same hr (ec_vw (eo_z) (ec_vw (eo_z) (ec_nil)))))) (ea_nil)))))))) (ss_nil)) (ss_cons (s_if ((b_or (t_is hr (eo_p) (eo (e_non))) (b_or1 (EO.tru (eo (e_isi (eo_p) k_str T.n_isinstance T.n_str))))).pt) (ss_one (s_ret (e_and (x_eq hr (eo_p) (eo_p)) (e_one (x_eq hr (eo (e_isi (eo_p) k_str T.n_isinstance T.n_str)) (eo (e_isi (eo_p) k_str T.n_isinstance T.n_str))))))) (ss_nil)) (ss_one (s_ret (e_and (e_isi (eo_p) k_int T.n_isinstance T.n_int) (e_and (e_not (eo (e_isi (eo_p) k_bool T.n_isinstance T.n_bool))) (e_one (x_eq hr (eo_p) (eo_p))))))))
theorem ok__law_sides (T : Ns mg) (D : Cs Pr w K mg base C k) (F : FnP K "_law_sides" st__law_sides f fd) : FnOk Pr w K mg base CX0 (k + 2) f fd ["_law_shape_here"] (spF K [false] (fnRun 4 [false] (b__law_sides C))) :=
  fn_ok F sc__law_sides rfl fun cdv A outer s H E hrL =>
    have hr := hrL.mono (Nat.le_succ k)
    ss_cons (s_set (e_lst (ao_nil)) sc__law_sides.nd) (ss_cons (s_if (t_eq hr (eo (e_ix (eo_z) (eo (e_int)))) (eo (e_str))) (ss_one (s_ret (e_mv))) (ss_nil)) (ss_cons (s_for .never rfl (it_seq (ek (e_ix (eo_z) (eo (e_int))))) (g_name sc__law_sides.nd) (ss_cons (s_for .never rfl (it_range2 (ek (e_int)) (ek (x_len T.n_len (ea_cons (eo_p) (ea_nil)))) T.n_range) (g_name sc__law_sides.nd) (ss_one (s_expr (e_append (e_tup (ea_cons (eo (e_ix (eo_z) (eo (x_sub (eo_p) (eo (e_int)))))) (ea_cons (eo (e_ix (eo_z) (eo_p))) (ea_nil)))))))) (ss_one (s_if (t_eq hr (eo (e_ix (eo_z) (eo (e_int)))) (eo (e_str))) (ss_one (s_expr (e_append (e_tup (ea_cons (eo (e_ix (eo_z) (eo (x_sub (eo (x_len T.n_len (ea_cons (eo_p) (ea_nil)))) (eo (e_int)))))) (ea_cons (eo (e_ix (eo_z) (eo (e_int)))) (ea_nil))))))) (ss_nil))))) (ss_one (s_ret (e_mv)))))
theorem ok__law_put_in (T : Ns mg) (D : Cs Pr w K mg base C k) (F : FnP K "_law_put_in" st__law_put_in f fd) : FnOk Pr w K mg base CX0 (k + 2) f fd ["_law_corners_here"] (spF K [false] (fnRun 5 [false] (b__law_put_in C))) :=
  fn_ok F sc__law_put_in rfl fun cdv A outer s H E hrL =>
    have hr := hrL.mono (Nat.le_succ k)
    ss_cons (s_set (e_lst (ao_nil)) sc__law_put_in.nd) (ss_cons (s_for .never rfl (it_seq (ek_z)) (g_name sc__law_put_in.nd) (ss_one (s_if (t_nin hr (eo_p) (eo_p)) (ss_cons (s_set (x_len T.n_len (ea_cons (eo (e_lc (P := []) (n := 5) (own := [("_law_one", 4)]) rfl rfl rfl sc__law_put_in.nd (it_seq (ek_z)) (blkOk_by (N := N__law_put_in) (sc := (defScope st__law_put_in)) (by decide +kernel)) (fun _ _ _ _ _ => g_name sc__law_put_in.nd) (fun _ _ _ _ _ => ts_one (EO.tru (eo (e_call D.f__law_ahead hr (ec_vw (eo_z) (ec_vw (eo_z) (ec_nil))))))) (fun _ _ _ _ _ => e_var))) (ea_nil))) sc__law_put_in.nd) (ss_one (s_expr (e_insert (e_var) (e_var))))) (ss_nil)))) (ss_one (s_ret (e_mv))))
theorem ok_law (T : Ns mg) (D : Cs Pr w K mg base C k) (F : FnP K "law" st_law f fd) : FnOk Pr w K mg base CX0 (k + 2) f fd ["_law_script"] (spF K [false] (fnRun 8 [false] (b_law C))) :=
  fn_ok F sc_law rfl fun cdv A outer s H E hrL =>
    have hr := hrL.mono (Nat.le_succ k)
    ss_cons (s_set (e_call D.f__law_hand hr (ec_vw (eo_z) (ec_nil))) sc_law.nd) (ss_cons (s_for .never rfl (it_range1 (ek (e_int)) T.n_range) (g_name sc_law.nd) (ss_cons (s_set (e_call D.f__law_shape hr (ec_mu (ec_nil))) sc_law.nd) (ss_cons (s_set (e_lst (ao_cons (e_call D.f__law_sides hr (ec_vw (eo_z) (ec_nil))) (ao_cons (e_call D.f__law_put_in hr (ec_vw (eo (e_call D.f__law_corners hr (ec_vw (eo_z) (ec_nil)))) (ec_nil))) (ao_nil)))) sc_law.nd) (ss_one (s_for .never rfl (it_range1 (ek (e_int)) T.n_range) (g_name sc_law.nd) (ss_cons (s_set (e_lst (ao_cons (e_call D.f_sides_in hr (ec_vw (eo_z) (ec_nil))) (ao_cons (e_call D.f_corners_in hr (ec_vw (eo_z) (ec_nil))) (ao_nil)))) sc_law.nd) (ss_cons (s_if (b_not (EO.tru (eo (e_callB D.f__law_same hr)))) (ss_one (s_ret (e_bl))) (ss_nil)) (ss_one (s_forMv .never rfl (g_name sc_law.nd) (ss_cons (s_expr (e_append (e_str))) (ss_one (s_expr (e_reverse))))))))))))) (ss_one (s_ret (e_bl))))
end
def sem : Nat → CE
  | 0 => sem0
  | n + 1 => fun f args => match f with
    | 0 => fnRun 2 [false, false] (b_greatest_in_both (sem n)) args
    | 2 => fnRun 1 [false] (b_top_of (sem n)) args
    | 3 => fnRun 1 [false] (b_below_of (sem n)) args
    | 6 => fnRun 4 [false] (b_common_below (sem n)) args
    | 7 => fnRun 2 [false, false] (b_whole_by (sem n)) args
    | 51 => fnRun 1 [false] (b_lines_in (sem n)) args
    | 52 => fnRun 3 [false] (b_all_corners (sem n)) args
    | 70 => fnRun 5 [false] (b_sides_in (sem n)) args
    | 8 => fnRun 2 [false, false] (b_whole_corner (sem n)) args
    | 9 => fnRun 3 [false] (b_common_of_corners (sem n)) args
    | 328 => fnRun 3 [false] (b_sorted_corners (sem n)) args
    | 71 => fnRun 3 [false] (b_each_once (sem n)) args
    | 329 => fnRun 1 [false] (b_corners_in (sem n)) args
    | 38 => fnRun 2 [false] (b__law_hand (sem n)) args
    | 39 => fnRun 6 [true, false] (b__law_draw (sem n)) args
    | 40 => fnRun 2 [false, false] (b__law_both (sem n)) args
    | 41 => fnRun 3 [false, false] (b__law_part (sem n)) args
    | 42 => fnRun 1 [false] (b__law_split (sem n)) args
    | 43 => fnRun 5 [true, false] (b__law_number (sem n)) args
    | 44 => fnRun 1 [true] (b__law_span (sem n)) args
    | 57 => fnRun 2 [true, false] (b__law_corner (sem n)) args
    | 58 => fnRun 6 [true, false, false] (b__law_points (sem n)) args
    | 59 => fnRun 3 [false] (b__law_beside (sem n)) args
    | 60 => fnRun 6 [true, false, false] (b__law_row (sem n)) args
    | 61 => fnRun 5 [true, false, false, false] (b__law_rows (sem n)) args
    | 62 => fnRun 4 [true] (b__law_rings (sem n)) args
    | 63 => fnRun 16 [true, false] (b__law_patch (sem n)) args
    | 64 => fnRun 5 [true] (b__law_shape (sem n)) args
    | 65 => fnRun 6 [false, false] (b__law_less (sem n)) args
    | 66 => fnRun 2 [false, false] (b__law_ahead (sem n)) args
    | 67 => fnRun 3 [false] (b__law_corners (sem n)) args
    | 72 => fnRun 4 [false, false] (b__law_same (sem n)) args
    | 73 => fnRun 4 [false] (b__law_sides (sem n)) args
    | 74 => fnRun 5 [false] (b__law_put_in (sem n)) args
    | 334 => fnRun 8 [false] (b_law (sem n)) args
    | _ => .bad
structure Al (K : PySem.W.Frag) (mg : Str → Option Value) : Prop where
  ns : Ns mg
  d_greatest_in_both : ∃ (f : Addr) (fd : FuncData), FnP K "greatest_in_both" st_greatest_in_both f fd ∧ mg "greatest_in_both" = some (.ref f)
  d_top_of : ∃ (f : Addr) (fd : FuncData), FnP K "top_of" st_top_of f fd ∧ mg "top_of" = some (.ref f)
  d_below_of : ∃ (f : Addr) (fd : FuncData), FnP K "below_of" st_below_of f fd ∧ mg "below_of" = some (.ref f)
  d_common_below : ∃ (f : Addr) (fd : FuncData), FnP K "common_below" st_common_below f fd ∧ mg "common_below" = some (.ref f)
  d_whole_by : ∃ (f : Addr) (fd : FuncData), FnP K "whole_by" st_whole_by f fd ∧ mg "whole_by" = some (.ref f)
  d_lines_in : ∃ (f : Addr) (fd : FuncData), FnP K "lines_in" st_lines_in f fd ∧ mg "lines_in" = some (.ref f)
  d_all_corners : ∃ (f : Addr) (fd : FuncData), FnP K "all_corners" st_all_corners f fd ∧ mg "all_corners" = some (.ref f)
  d_sides_in : ∃ (f : Addr) (fd : FuncData), FnP K "sides_in" st_sides_in f fd ∧ mg "sides_in" = some (.ref f)
  d_whole_corner : ∃ (f : Addr) (fd : FuncData), FnP K "whole_corner" st_whole_corner f fd ∧ mg "whole_corner" = some (.ref f)
  d_common_of_corners : ∃ (f : Addr) (fd : FuncData), FnP K "common_of_corners" st_common_of_corners f fd ∧ mg "common_of_corners" = some (.ref f)
  d_sorted_corners : ∃ (f : Addr) (fd : FuncData), FnP K "sorted_corners" st_sorted_corners f fd ∧ mg "sorted_corners" = some (.ref f)
  d_each_once : ∃ (f : Addr) (fd : FuncData), FnP K "each_once" st_each_once f fd ∧ mg "each_once" = some (.ref f)
  d_corners_in : ∃ (f : Addr) (fd : FuncData), FnP K "corners_in" st_corners_in f fd ∧ mg "corners_in" = some (.ref f)
  d__law_hand : ∃ (f : Addr) (fd : FuncData), FnP K "_law_hand" st__law_hand f fd ∧ mg "_law_hand" = some (.ref f)
  d__law_draw : ∃ (f : Addr) (fd : FuncData), FnP K "_law_draw" st__law_draw f fd ∧ mg "_law_draw" = some (.ref f)
  d__law_both : ∃ (f : Addr) (fd : FuncData), FnP K "_law_both" st__law_both f fd ∧ mg "_law_both" = some (.ref f)
  d__law_part : ∃ (f : Addr) (fd : FuncData), FnP K "_law_part" st__law_part f fd ∧ mg "_law_part" = some (.ref f)
  d__law_split : ∃ (f : Addr) (fd : FuncData), FnP K "_law_split" st__law_split f fd ∧ mg "_law_split" = some (.ref f)
  d__law_number : ∃ (f : Addr) (fd : FuncData), FnP K "_law_number" st__law_number f fd ∧ mg "_law_number" = some (.ref f)
  d__law_span : ∃ (f : Addr) (fd : FuncData), FnP K "_law_span" st__law_span f fd ∧ mg "_law_span" = some (.ref f)
  d__law_corner : ∃ (f : Addr) (fd : FuncData), FnP K "_law_corner" st__law_corner f fd ∧ mg "_law_corner" = some (.ref f)
  d__law_points : ∃ (f : Addr) (fd : FuncData), FnP K "_law_points" st__law_points f fd ∧ mg "_law_points" = some (.ref f)
  d__law_beside : ∃ (f : Addr) (fd : FuncData), FnP K "_law_beside" st__law_beside f fd ∧ mg "_law_beside" = some (.ref f)
  d__law_row : ∃ (f : Addr) (fd : FuncData), FnP K "_law_row" st__law_row f fd ∧ mg "_law_row" = some (.ref f)
  d__law_rows : ∃ (f : Addr) (fd : FuncData), FnP K "_law_rows" st__law_rows f fd ∧ mg "_law_rows" = some (.ref f)
  d__law_rings : ∃ (f : Addr) (fd : FuncData), FnP K "_law_rings" st__law_rings f fd ∧ mg "_law_rings" = some (.ref f)
  d__law_patch : ∃ (f : Addr) (fd : FuncData), FnP K "_law_patch" st__law_patch f fd ∧ mg "_law_patch" = some (.ref f)
  d__law_shape : ∃ (f : Addr) (fd : FuncData), FnP K "_law_shape" st__law_shape f fd ∧ mg "_law_shape" = some (.ref f)
  d__law_less : ∃ (f : Addr) (fd : FuncData), FnP K "_law_less" st__law_less f fd ∧ mg "_law_less" = some (.ref f)
  d__law_ahead : ∃ (f : Addr) (fd : FuncData), FnP K "_law_ahead" st__law_ahead f fd ∧ mg "_law_ahead" = some (.ref f)
  d__law_corners : ∃ (f : Addr) (fd : FuncData), FnP K "_law_corners" st__law_corners f fd ∧ mg "_law_corners" = some (.ref f)
  d__law_same : ∃ (f : Addr) (fd : FuncData), FnP K "_law_same" st__law_same f fd ∧ mg "_law_same" = some (.ref f)
  d__law_sides : ∃ (f : Addr) (fd : FuncData), FnP K "_law_sides" st__law_sides f fd ∧ mg "_law_sides" = some (.ref f)
  d__law_put_in : ∃ (f : Addr) (fd : FuncData), FnP K "_law_put_in" st__law_put_in f fd ∧ mg "_law_put_in" = some (.ref f)
  d_law : ∃ (f : Addr) (fd : FuncData), FnP K "law" st_law f fd ∧ mg "law" = some (.ref f)
  a_sorted_corners : (He.cT K ("sorted_corners", none)).2 = 84
  g_sorted_corners : mg "sorted_corners" = some (.ref (He.ga K "sorted_corners"))
theorem all_ok {Pr : Program} {w : World} {K : PySem.W.Frag} {mg : Str → Option Value} {base : Heap} (A : Al K mg) (B : ∀ p ∈ tf, LamX.TabB base mg (He.cT K p).1 (He.cT K p).2) : ∀ n, Cs Pr w K mg base (sem n) (2 * n)
  | 0 => {
    l_sorted_corners := B ("sorted_corners", none) (by simp [tf])
    a_sorted_corners := A.a_sorted_corners
    f_greatest_in_both := by
      obtain ⟨f, fd, F, e⟩ := A.d_greatest_in_both
      exact ⟨f, fd, _, fnOk0, e, F.kp, F.bindsN (ps := ["one", "other"]) fun _ _ _ _ _ _ us hl => match us, hl with | [_, _], _ => rfl⟩
    f_top_of := by
      obtain ⟨f, fd, F, e⟩ := A.d_top_of
      exact ⟨f, fd, _, fnOk0, e, F.kp, F.bindsN (ps := ["number"]) fun _ _ _ _ _ _ us hl => match us, hl with | [_], _ => rfl⟩
    f_below_of := by
      obtain ⟨f, fd, F, e⟩ := A.d_below_of
      exact ⟨f, fd, _, fnOk0, e, F.kp, F.bindsN (ps := ["number"]) fun _ _ _ _ _ _ us hl => match us, hl with | [_], _ => rfl⟩
    f_common_below := by
      obtain ⟨f, fd, F, e⟩ := A.d_common_below
      exact ⟨f, fd, _, fnOk0, e, F.kp, F.bindsN (ps := ["numbers"]) fun _ _ _ _ _ _ us hl => match us, hl with | [_], _ => rfl⟩
    f_whole_by := by
      obtain ⟨f, fd, F, e⟩ := A.d_whole_by
      exact ⟨f, fd, _, fnOk0, e, F.kp, F.bindsN (ps := ["number", "often"]) fun _ _ _ _ _ _ us hl => match us, hl with | [_, _], _ => rfl⟩
    f_lines_in := by
      obtain ⟨f, fd, F, e⟩ := A.d_lines_in
      exact ⟨f, fd, _, fnOk0, e, F.kp, F.bindsN (ps := ["shape"]) fun _ _ _ _ _ _ us hl => match us, hl with | [_], _ => rfl⟩
    f_all_corners := by
      obtain ⟨f, fd, F, e⟩ := A.d_all_corners
      exact ⟨f, fd, _, fnOk0, e, F.kp, F.bindsN (ps := ["shape"]) fun _ _ _ _ _ _ us hl => match us, hl with | [_], _ => rfl⟩
    f_sides_in := by
      obtain ⟨f, fd, F, e⟩ := A.d_sides_in
      exact ⟨f, fd, _, fnOk0, e, F.kp, F.bindsN (ps := ["shape"]) fun _ _ _ _ _ _ us hl => match us, hl with | [_], _ => rfl⟩
    f_whole_corner := by
      obtain ⟨f, fd, F, e⟩ := A.d_whole_corner
      exact ⟨f, fd, _, fnOk0, e, F.kp, F.bindsN (ps := ["corner", "often"]) fun _ _ _ _ _ _ us hl => match us, hl with | [_, _], _ => rfl⟩
    f_common_of_corners := by
      obtain ⟨f, fd, F, e⟩ := A.d_common_of_corners
      exact ⟨f, fd, _, fnOk0, e, F.kp, F.bindsN (ps := ["corners"]) fun _ _ _ _ _ _ us hl => match us, hl with | [_], _ => rfl⟩
    f_sorted_corners := by
      obtain ⟨f, fd, F, e⟩ := A.d_sorted_corners
      exact ⟨f, fd, _, fnOk0, e, F.kp, F.bindsN (ps := ["corners"]) fun _ _ _ _ _ _ us hl => match us, hl with | [_], _ => rfl⟩
    f_each_once := by
      obtain ⟨f, fd, F, e⟩ := A.d_each_once
      exact ⟨f, fd, _, fnOk0, e, F.kp, F.bindsN (ps := ["things"]) fun _ _ _ _ _ _ us hl => match us, hl with | [_], _ => rfl⟩
    f_corners_in := by
      obtain ⟨f, fd, F, e⟩ := A.d_corners_in
      exact ⟨f, fd, _, fnOk0, e, F.kp, F.bindsN (ps := ["shape"]) fun _ _ _ _ _ _ us hl => match us, hl with | [_], _ => rfl⟩
    f__law_hand := by
      obtain ⟨f, fd, F, e⟩ := A.d__law_hand
      exact ⟨f, fd, _, fnOk0, e, F.kp, F.bindsN (ps := ["_law_script"]) fun _ _ _ _ _ _ us hl => match us, hl with | [_], _ => rfl⟩
    f__law_draw := by
      obtain ⟨f, fd, F, e⟩ := A.d__law_draw
      exact ⟨f, fd, _, fnOk0, e, F.kp, F.bindsN (ps := ["_law_hand_here", "_law_many"]) fun _ _ _ _ _ _ us hl => match us, hl with | [_, _], _ => rfl⟩
    f__law_both := by
      obtain ⟨f, fd, F, e⟩ := A.d__law_both
      exact ⟨f, fd, _, fnOk0, e, F.kp, F.bindsN (ps := ["_law_one", "_law_other"]) fun _ _ _ _ _ _ us hl => match us, hl with | [_, _], _ => rfl⟩
    f__law_part := by
      obtain ⟨f, fd, F, e⟩ := A.d__law_part
      exact ⟨f, fd, _, fnOk0, e, F.kp, F.bindsN (ps := ["_law_top", "_law_below"]) fun _ _ _ _ _ _ us hl => match us, hl with | [_, _], _ => rfl⟩
    f__law_split := by
      obtain ⟨f, fd, F, e⟩ := A.d__law_split
      exact ⟨f, fd, _, fnOk0, e, F.kp, F.bindsN (ps := ["_law_number_here"]) fun _ _ _ _ _ _ us hl => match us, hl with | [_], _ => rfl⟩
    f__law_number := by
      obtain ⟨f, fd, F, e⟩ := A.d__law_number
      exact ⟨f, fd, _, fnOk0, e, F.kp, F.bindsN (ps := ["_law_hand_here", "_law_span_here"]) fun _ _ _ _ _ _ us hl => match us, hl with | [_, _], _ => rfl⟩
    f__law_span := by
      obtain ⟨f, fd, F, e⟩ := A.d__law_span
      exact ⟨f, fd, _, fnOk0, e, F.kp, F.bindsN (ps := ["_law_hand_here"]) fun _ _ _ _ _ _ us hl => match us, hl with | [_], _ => rfl⟩
    f__law_corner := by
      obtain ⟨f, fd, F, e⟩ := A.d__law_corner
      exact ⟨f, fd, _, fnOk0, e, F.kp, F.bindsN (ps := ["_law_hand_here", "_law_span_here"]) fun _ _ _ _ _ _ us hl => match us, hl with | [_, _], _ => rfl⟩
    f__law_points := by
      obtain ⟨f, fd, F, e⟩ := A.d__law_points
      exact ⟨f, fd, _, fnOk0, e, F.kp, F.bindsN (ps := ["_law_hand_here", "_law_span_here", "_law_most"]) fun _ _ _ _ _ _ us hl => match us, hl with | [_, _, _], _ => rfl⟩
    f__law_beside := by
      obtain ⟨f, fd, F, e⟩ := A.d__law_beside
      exact ⟨f, fd, _, fnOk0, e, F.kp, F.bindsN (ps := ["_law_number_here"]) fun _ _ _ _ _ _ us hl => match us, hl with | [_], _ => rfl⟩
    f__law_row := by
      obtain ⟨f, fd, F, e⟩ := A.d__law_row
      exact ⟨f, fd, _, fnOk0, e, F.kp, F.bindsN (ps := ["_law_hand_here", "_law_span_here", "_law_most"]) fun _ _ _ _ _ _ us hl => match us, hl with | [_, _, _], _ => rfl⟩
    f__law_rows := by
      obtain ⟨f, fd, F, e⟩ := A.d__law_rows
      exact ⟨f, fd, _, fnOk0, e, F.kp, F.bindsN (ps := ["_law_hand_here", "_law_span_here", "_law_most", "_law_many"]) fun _ _ _ _ _ _ us hl => match us, hl with | [_, _, _, _], _ => rfl⟩
    f__law_rings := by
      obtain ⟨f, fd, F, e⟩ := A.d__law_rings
      exact ⟨f, fd, _, fnOk0, e, F.kp, F.bindsN (ps := ["_law_hand_here"]) fun _ _ _ _ _ _ us hl => match us, hl with | [_], _ => rfl⟩
    f__law_patch := by
      obtain ⟨f, fd, F, e⟩ := A.d__law_patch
      exact ⟨f, fd, _, fnOk0, e, F.kp, F.bindsN (ps := ["_law_hand_here", "_law_span_here"]) fun _ _ _ _ _ _ us hl => match us, hl with | [_, _], _ => rfl⟩
    f__law_shape := by
      obtain ⟨f, fd, F, e⟩ := A.d__law_shape
      exact ⟨f, fd, _, fnOk0, e, F.kp, F.bindsN (ps := ["_law_hand_here"]) fun _ _ _ _ _ _ us hl => match us, hl with | [_], _ => rfl⟩
    f__law_less := by
      obtain ⟨f, fd, F, e⟩ := A.d__law_less
      exact ⟨f, fd, _, fnOk0, e, F.kp, F.bindsN (ps := ["_law_one", "_law_other"]) fun _ _ _ _ _ _ us hl => match us, hl with | [_, _], _ => rfl⟩
    f__law_ahead := by
      obtain ⟨f, fd, F, e⟩ := A.d__law_ahead
      exact ⟨f, fd, _, fnOk0, e, F.kp, F.bindsN (ps := ["_law_one", "_law_other"]) fun _ _ _ _ _ _ us hl => match us, hl with | [_, _], _ => rfl⟩
    f__law_corners := by
      obtain ⟨f, fd, F, e⟩ := A.d__law_corners
      exact ⟨f, fd, _, fnOk0, e, F.kp, F.bindsN (ps := ["_law_shape_here"]) fun _ _ _ _ _ _ us hl => match us, hl with | [_], _ => rfl⟩
    f__law_same := by
      obtain ⟨f, fd, F, e⟩ := A.d__law_same
      exact ⟨f, fd, _, fnOk0, e, F.kp, F.bindsN (ps := ["_law_found", "_law_due"]) fun _ _ _ _ _ _ us hl => match us, hl with | [_, _], _ => rfl⟩
    f__law_sides := by
      obtain ⟨f, fd, F, e⟩ := A.d__law_sides
      exact ⟨f, fd, _, fnOk0, e, F.kp, F.bindsN (ps := ["_law_shape_here"]) fun _ _ _ _ _ _ us hl => match us, hl with | [_], _ => rfl⟩
    f__law_put_in := by
      obtain ⟨f, fd, F, e⟩ := A.d__law_put_in
      exact ⟨f, fd, _, fnOk0, e, F.kp, F.bindsN (ps := ["_law_corners_here"]) fun _ _ _ _ _ _ us hl => match us, hl with | [_], _ => rfl⟩
    f_law := by
      obtain ⟨f, fd, F, e⟩ := A.d_law
      exact ⟨f, fd, _, fnOk0, e, F.kp, F.bindsN (ps := ["_law_script"]) fun _ _ _ _ _ _ us hl => match us, hl with | [_], _ => rfl⟩
    }
  | n + 1 => {
    l_sorted_corners := B ("sorted_corners", none) (by simp [tf])
    a_sorted_corners := A.a_sorted_corners
    f_greatest_in_both := by
      obtain ⟨f, fd, F, e⟩ := A.d_greatest_in_both
      exact ⟨f, fd, _, ok_greatest_in_both A.ns (all_ok A B n) F, e, F.kp, F.bindsN (ps := ["one", "other"]) fun _ _ _ _ _ _ us hl => match us, hl with | [_, _], _ => rfl⟩
    f_top_of := by
      obtain ⟨f, fd, F, e⟩ := A.d_top_of
      exact ⟨f, fd, _, ok_top_of A.ns (all_ok A B n) F, e, F.kp, F.bindsN (ps := ["number"]) fun _ _ _ _ _ _ us hl => match us, hl with | [_], _ => rfl⟩
    f_below_of := by
      obtain ⟨f, fd, F, e⟩ := A.d_below_of
      exact ⟨f, fd, _, ok_below_of A.ns (all_ok A B n) F, e, F.kp, F.bindsN (ps := ["number"]) fun _ _ _ _ _ _ us hl => match us, hl with | [_], _ => rfl⟩
    f_common_below := by
      obtain ⟨f, fd, F, e⟩ := A.d_common_below
      exact ⟨f, fd, _, ok_common_below A.ns (all_ok A B n) F, e, F.kp, F.bindsN (ps := ["numbers"]) fun _ _ _ _ _ _ us hl => match us, hl with | [_], _ => rfl⟩
    f_whole_by := by
      obtain ⟨f, fd, F, e⟩ := A.d_whole_by
      exact ⟨f, fd, _, ok_whole_by A.ns (all_ok A B n) F, e, F.kp, F.bindsN (ps := ["number", "often"]) fun _ _ _ _ _ _ us hl => match us, hl with | [_, _], _ => rfl⟩
    f_lines_in := by
      obtain ⟨f, fd, F, e⟩ := A.d_lines_in
      exact ⟨f, fd, _, ok_lines_in A.ns (all_ok A B n) F, e, F.kp, F.bindsN (ps := ["shape"]) fun _ _ _ _ _ _ us hl => match us, hl with | [_], _ => rfl⟩
    f_all_corners := by
      obtain ⟨f, fd, F, e⟩ := A.d_all_corners
      exact ⟨f, fd, _, ok_all_corners A.ns (all_ok A B n) F, e, F.kp, F.bindsN (ps := ["shape"]) fun _ _ _ _ _ _ us hl => match us, hl with | [_], _ => rfl⟩
    f_sides_in := by
      obtain ⟨f, fd, F, e⟩ := A.d_sides_in
      exact ⟨f, fd, _, ok_sides_in A.ns (all_ok A B n) F, e, F.kp, F.bindsN (ps := ["shape"]) fun _ _ _ _ _ _ us hl => match us, hl with | [_], _ => rfl⟩
    f_whole_corner := by
      obtain ⟨f, fd, F, e⟩ := A.d_whole_corner
      exact ⟨f, fd, _, ok_whole_corner A.ns (all_ok A B n) F, e, F.kp, F.bindsN (ps := ["corner", "often"]) fun _ _ _ _ _ _ us hl => match us, hl with | [_, _], _ => rfl⟩
    f_common_of_corners := by
      obtain ⟨f, fd, F, e⟩ := A.d_common_of_corners
      exact ⟨f, fd, _, ok_common_of_corners A.ns (all_ok A B n) F, e, F.kp, F.bindsN (ps := ["corners"]) fun _ _ _ _ _ _ us hl => match us, hl with | [_], _ => rfl⟩
    f_sorted_corners := by
      obtain ⟨f, fd, F, e⟩ := A.d_sorted_corners
      exact ⟨f, fd, _, ok_sorted_corners A.ns (all_ok A B n) F (ga_of e A.g_sorted_corners), e, F.kp, F.bindsN (ps := ["corners"]) fun _ _ _ _ _ _ us hl => match us, hl with | [_], _ => rfl⟩
    f_each_once := by
      obtain ⟨f, fd, F, e⟩ := A.d_each_once
      exact ⟨f, fd, _, ok_each_once A.ns (all_ok A B n) F, e, F.kp, F.bindsN (ps := ["things"]) fun _ _ _ _ _ _ us hl => match us, hl with | [_], _ => rfl⟩
    f_corners_in := by
      obtain ⟨f, fd, F, e⟩ := A.d_corners_in
      exact ⟨f, fd, _, ok_corners_in A.ns (all_ok A B n) F, e, F.kp, F.bindsN (ps := ["shape"]) fun _ _ _ _ _ _ us hl => match us, hl with | [_], _ => rfl⟩
    f__law_hand := by
      obtain ⟨f, fd, F, e⟩ := A.d__law_hand
      exact ⟨f, fd, _, ok__law_hand A.ns (all_ok A B n) F, e, F.kp, F.bindsN (ps := ["_law_script"]) fun _ _ _ _ _ _ us hl => match us, hl with | [_], _ => rfl⟩
    f__law_draw := by
      obtain ⟨f, fd, F, e⟩ := A.d__law_draw
      exact ⟨f, fd, _, ok__law_draw A.ns (all_ok A B n) F, e, F.kp, F.bindsN (ps := ["_law_hand_here", "_law_many"]) fun _ _ _ _ _ _ us hl => match us, hl with | [_, _], _ => rfl⟩
    f__law_both := by
      obtain ⟨f, fd, F, e⟩ := A.d__law_both
      exact ⟨f, fd, _, ok__law_both A.ns (all_ok A B n) F, e, F.kp, F.bindsN (ps := ["_law_one", "_law_other"]) fun _ _ _ _ _ _ us hl => match us, hl with | [_, _], _ => rfl⟩
    f__law_part := by
      obtain ⟨f, fd, F, e⟩ := A.d__law_part
      exact ⟨f, fd, _, ok__law_part A.ns (all_ok A B n) F, e, F.kp, F.bindsN (ps := ["_law_top", "_law_below"]) fun _ _ _ _ _ _ us hl => match us, hl with | [_, _], _ => rfl⟩
    f__law_split := by
      obtain ⟨f, fd, F, e⟩ := A.d__law_split
      exact ⟨f, fd, _, ok__law_split A.ns (all_ok A B n) F, e, F.kp, F.bindsN (ps := ["_law_number_here"]) fun _ _ _ _ _ _ us hl => match us, hl with | [_], _ => rfl⟩
    f__law_number := by
      obtain ⟨f, fd, F, e⟩ := A.d__law_number
      exact ⟨f, fd, _, ok__law_number A.ns (all_ok A B n) F, e, F.kp, F.bindsN (ps := ["_law_hand_here", "_law_span_here"]) fun _ _ _ _ _ _ us hl => match us, hl with | [_, _], _ => rfl⟩
    f__law_span := by
      obtain ⟨f, fd, F, e⟩ := A.d__law_span
      exact ⟨f, fd, _, ok__law_span A.ns (all_ok A B n) F, e, F.kp, F.bindsN (ps := ["_law_hand_here"]) fun _ _ _ _ _ _ us hl => match us, hl with | [_], _ => rfl⟩
    f__law_corner := by
      obtain ⟨f, fd, F, e⟩ := A.d__law_corner
      exact ⟨f, fd, _, ok__law_corner A.ns (all_ok A B n) F, e, F.kp, F.bindsN (ps := ["_law_hand_here", "_law_span_here"]) fun _ _ _ _ _ _ us hl => match us, hl with | [_, _], _ => rfl⟩
    f__law_points := by
      obtain ⟨f, fd, F, e⟩ := A.d__law_points
      exact ⟨f, fd, _, ok__law_points A.ns (all_ok A B n) F, e, F.kp, F.bindsN (ps := ["_law_hand_here", "_law_span_here", "_law_most"]) fun _ _ _ _ _ _ us hl => match us, hl with | [_, _, _], _ => rfl⟩
    f__law_beside := by
      obtain ⟨f, fd, F, e⟩ := A.d__law_beside
      exact ⟨f, fd, _, ok__law_beside A.ns (all_ok A B n) F, e, F.kp, F.bindsN (ps := ["_law_number_here"]) fun _ _ _ _ _ _ us hl => match us, hl with | [_], _ => rfl⟩
    f__law_row := by
      obtain ⟨f, fd, F, e⟩ := A.d__law_row
      exact ⟨f, fd, _, ok__law_row A.ns (all_ok A B n) F, e, F.kp, F.bindsN (ps := ["_law_hand_here", "_law_span_here", "_law_most"]) fun _ _ _ _ _ _ us hl => match us, hl with | [_, _, _], _ => rfl⟩
    f__law_rows := by
      obtain ⟨f, fd, F, e⟩ := A.d__law_rows
      exact ⟨f, fd, _, ok__law_rows A.ns (all_ok A B n) F, e, F.kp, F.bindsN (ps := ["_law_hand_here", "_law_span_here", "_law_most", "_law_many"]) fun _ _ _ _ _ _ us hl => match us, hl with | [_, _, _, _], _ => rfl⟩
    f__law_rings := by
      obtain ⟨f, fd, F, e⟩ := A.d__law_rings
      exact ⟨f, fd, _, ok__law_rings A.ns (all_ok A B n) F, e, F.kp, F.bindsN (ps := ["_law_hand_here"]) fun _ _ _ _ _ _ us hl => match us, hl with | [_], _ => rfl⟩
    f__law_patch := by
      obtain ⟨f, fd, F, e⟩ := A.d__law_patch
      exact ⟨f, fd, _, ok__law_patch A.ns (all_ok A B n) F, e, F.kp, F.bindsN (ps := ["_law_hand_here", "_law_span_here"]) fun _ _ _ _ _ _ us hl => match us, hl with | [_, _], _ => rfl⟩
    f__law_shape := by
      obtain ⟨f, fd, F, e⟩ := A.d__law_shape
      exact ⟨f, fd, _, ok__law_shape A.ns (all_ok A B n) F, e, F.kp, F.bindsN (ps := ["_law_hand_here"]) fun _ _ _ _ _ _ us hl => match us, hl with | [_], _ => rfl⟩
    f__law_less := by
      obtain ⟨f, fd, F, e⟩ := A.d__law_less
      exact ⟨f, fd, _, ok__law_less A.ns (all_ok A B n) F, e, F.kp, F.bindsN (ps := ["_law_one", "_law_other"]) fun _ _ _ _ _ _ us hl => match us, hl with | [_, _], _ => rfl⟩
    f__law_ahead := by
      obtain ⟨f, fd, F, e⟩ := A.d__law_ahead
      exact ⟨f, fd, _, ok__law_ahead A.ns (all_ok A B n) F, e, F.kp, F.bindsN (ps := ["_law_one", "_law_other"]) fun _ _ _ _ _ _ us hl => match us, hl with | [_, _], _ => rfl⟩
    f__law_corners := by
      obtain ⟨f, fd, F, e⟩ := A.d__law_corners
      exact ⟨f, fd, _, ok__law_corners A.ns (all_ok A B n) F, e, F.kp, F.bindsN (ps := ["_law_shape_here"]) fun _ _ _ _ _ _ us hl => match us, hl with | [_], _ => rfl⟩
    f__law_same := by
      obtain ⟨f, fd, F, e⟩ := A.d__law_same
      exact ⟨f, fd, _, ok__law_same A.ns (all_ok A B n) F, e, F.kp, F.bindsN (ps := ["_law_found", "_law_due"]) fun _ _ _ _ _ _ us hl => match us, hl with | [_, _], _ => rfl⟩
    f__law_sides := by
      obtain ⟨f, fd, F, e⟩ := A.d__law_sides
      exact ⟨f, fd, _, ok__law_sides A.ns (all_ok A B n) F, e, F.kp, F.bindsN (ps := ["_law_shape_here"]) fun _ _ _ _ _ _ us hl => match us, hl with | [_], _ => rfl⟩
    f__law_put_in := by
      obtain ⟨f, fd, F, e⟩ := A.d__law_put_in
      exact ⟨f, fd, _, ok__law_put_in A.ns (all_ok A B n) F, e, F.kp, F.bindsN (ps := ["_law_corners_here"]) fun _ _ _ _ _ _ us hl => match us, hl with | [_], _ => rfl⟩
    f_law := by
      obtain ⟨f, fd, F, e⟩ := A.d_law
      exact ⟨f, fd, _, ok_law A.ns (all_ok A B n) F, e, F.kp, F.bindsN (ps := ["_law_script"]) fun _ _ _ _ _ _ us hl => match us, hl with | [_], _ => rfl⟩
    }
theorem al {w : World} {K : PySem.W.Frag} {h : Heap} {mg : Str → Option Value} (X : K.In h) (G : h.Ns mainGlobals mg) (c : He.SaysX fa fn ts tf ex w h K) : Al K mg where
  ns := {
    n_abs := He.free_ok X G (c.t.d.fact 35 (f := .free "abs") rfl)
    n_all := He.free_ok X G (c.t.d.fact 36 (f := .free "all") rfl)
    n_bool := He.free_ok X G (c.t.d.fact 37 (f := .free "bool") rfl)
    n_enumerate := He.free_ok X G (c.t.d.fact 38 (f := .free "enumerate") rfl)
    n_int := He.free_ok X G (c.t.d.fact 39 (f := .free "int") rfl)
    n_isinstance := He.free_ok X G (c.t.d.fact 40 (f := .free "isinstance") rfl)
    n_len := He.free_ok X G (c.t.d.fact 41 (f := .free "len") rfl)
    n_list := He.free_ok X G (c.t.d.fact 42 (f := .free "list") rfl)
    n_min := He.free_ok X G (c.t.d.fact 43 (f := .free "min") rfl)
    n_range := He.free_ok X G (c.t.d.fact 44 (f := .free "range") rfl)
    n_sorted := He.free_ok X G (c.t.d.fact 45 (f := .free "sorted") rfl)
    n_str := He.free_ok X G (c.t.d.fact 46 (f := .free "str") rfl)
    n_tuple := He.free_ok X G (c.t.d.fact 47 (f := .free "tuple") rfl)
    n_zip := He.free_ok X G (c.t.d.fact 48 (f := .free "zip") rfl)
    c_PATCH := He.str_ok X G (c.t.d.fact 49 (f := .str "PATCH" "patch") rfl)
    c_POINTS := He.str_ok X G (c.t.d.fact 50 (f := .str "POINTS" "points") rfl)
    }
  a_sorted_corners := by
    have h := c.more
    simp only [ex, Bool.and_eq_true, decide_eq_true_eq] at h
    exact h
  g_sorted_corners := He.glo_ok X G (c.t.d.fact 10 (f := .glo "sorted_corners") rfl)
  d_greatest_in_both := by
    obtain ⟨fd, F⟩ := c.t.d.def_ 0 (d := d_greatest_in_both) rfl
    exact ⟨_, fd, F, He.glo_ok X G (c.t.d.fact 0 (f := .glo "greatest_in_both") rfl)⟩
  d_top_of := by
    obtain ⟨fd, F⟩ := c.t.d.def_ 1 (d := d_top_of) rfl
    exact ⟨_, fd, F, He.glo_ok X G (c.t.d.fact 1 (f := .glo "top_of") rfl)⟩
  d_below_of := by
    obtain ⟨fd, F⟩ := c.t.d.def_ 2 (d := d_below_of) rfl
    exact ⟨_, fd, F, He.glo_ok X G (c.t.d.fact 2 (f := .glo "below_of") rfl)⟩
  d_common_below := by
    obtain ⟨fd, F⟩ := c.t.d.def_ 3 (d := d_common_below) rfl
    exact ⟨_, fd, F, He.glo_ok X G (c.t.d.fact 3 (f := .glo "common_below") rfl)⟩
  d_whole_by := by
    obtain ⟨fd, F⟩ := c.t.d.def_ 4 (d := d_whole_by) rfl
    exact ⟨_, fd, F, He.glo_ok X G (c.t.d.fact 4 (f := .glo "whole_by") rfl)⟩
  d_lines_in := by
    obtain ⟨fd, F⟩ := c.t.d.def_ 5 (d := d_lines_in) rfl
    exact ⟨_, fd, F, He.glo_ok X G (c.t.d.fact 5 (f := .glo "lines_in") rfl)⟩
  d_all_corners := by
    obtain ⟨fd, F⟩ := c.t.d.def_ 6 (d := d_all_corners) rfl
    exact ⟨_, fd, F, He.glo_ok X G (c.t.d.fact 6 (f := .glo "all_corners") rfl)⟩
  d_sides_in := by
    obtain ⟨fd, F⟩ := c.t.d.def_ 7 (d := d_sides_in) rfl
    exact ⟨_, fd, F, He.glo_ok X G (c.t.d.fact 7 (f := .glo "sides_in") rfl)⟩
  d_whole_corner := by
    obtain ⟨fd, F⟩ := c.t.d.def_ 8 (d := d_whole_corner) rfl
    exact ⟨_, fd, F, He.glo_ok X G (c.t.d.fact 8 (f := .glo "whole_corner") rfl)⟩
  d_common_of_corners := by
    obtain ⟨fd, F⟩ := c.t.d.def_ 9 (d := d_common_of_corners) rfl
    exact ⟨_, fd, F, He.glo_ok X G (c.t.d.fact 9 (f := .glo "common_of_corners") rfl)⟩
  d_sorted_corners := by
    obtain ⟨fd, F⟩ := c.t.d.def_ 10 (d := d_sorted_corners) rfl
    exact ⟨_, fd, F, He.glo_ok X G (c.t.d.fact 10 (f := .glo "sorted_corners") rfl)⟩
  d_each_once := by
    obtain ⟨fd, F⟩ := c.t.d.def_ 11 (d := d_each_once) rfl
    exact ⟨_, fd, F, He.glo_ok X G (c.t.d.fact 11 (f := .glo "each_once") rfl)⟩
  d_corners_in := by
    obtain ⟨fd, F⟩ := c.t.d.def_ 12 (d := d_corners_in) rfl
    exact ⟨_, fd, F, He.glo_ok X G (c.t.d.fact 12 (f := .glo "corners_in") rfl)⟩
  d__law_hand := by
    obtain ⟨fd, F⟩ := c.t.d.def_ 13 (d := d__law_hand) rfl
    exact ⟨_, fd, F, He.glo_ok X G (c.t.d.fact 13 (f := .glo "_law_hand") rfl)⟩
  d__law_draw := by
    obtain ⟨fd, F⟩ := c.t.d.def_ 14 (d := d__law_draw) rfl
    exact ⟨_, fd, F, He.glo_ok X G (c.t.d.fact 14 (f := .glo "_law_draw") rfl)⟩
  d__law_both := by
    obtain ⟨fd, F⟩ := c.t.d.def_ 15 (d := d__law_both) rfl
    exact ⟨_, fd, F, He.glo_ok X G (c.t.d.fact 15 (f := .glo "_law_both") rfl)⟩
  d__law_part := by
    obtain ⟨fd, F⟩ := c.t.d.def_ 16 (d := d__law_part) rfl
    exact ⟨_, fd, F, He.glo_ok X G (c.t.d.fact 16 (f := .glo "_law_part") rfl)⟩
  d__law_split := by
    obtain ⟨fd, F⟩ := c.t.d.def_ 17 (d := d__law_split) rfl
    exact ⟨_, fd, F, He.glo_ok X G (c.t.d.fact 17 (f := .glo "_law_split") rfl)⟩
  d__law_number := by
    obtain ⟨fd, F⟩ := c.t.d.def_ 18 (d := d__law_number) rfl
    exact ⟨_, fd, F, He.glo_ok X G (c.t.d.fact 18 (f := .glo "_law_number") rfl)⟩
  d__law_span := by
    obtain ⟨fd, F⟩ := c.t.d.def_ 19 (d := d__law_span) rfl
    exact ⟨_, fd, F, He.glo_ok X G (c.t.d.fact 19 (f := .glo "_law_span") rfl)⟩
  d__law_corner := by
    obtain ⟨fd, F⟩ := c.t.d.def_ 20 (d := d__law_corner) rfl
    exact ⟨_, fd, F, He.glo_ok X G (c.t.d.fact 20 (f := .glo "_law_corner") rfl)⟩
  d__law_points := by
    obtain ⟨fd, F⟩ := c.t.d.def_ 21 (d := d__law_points) rfl
    exact ⟨_, fd, F, He.glo_ok X G (c.t.d.fact 21 (f := .glo "_law_points") rfl)⟩
  d__law_beside := by
    obtain ⟨fd, F⟩ := c.t.d.def_ 22 (d := d__law_beside) rfl
    exact ⟨_, fd, F, He.glo_ok X G (c.t.d.fact 22 (f := .glo "_law_beside") rfl)⟩
  d__law_row := by
    obtain ⟨fd, F⟩ := c.t.d.def_ 23 (d := d__law_row) rfl
    exact ⟨_, fd, F, He.glo_ok X G (c.t.d.fact 23 (f := .glo "_law_row") rfl)⟩
  d__law_rows := by
    obtain ⟨fd, F⟩ := c.t.d.def_ 24 (d := d__law_rows) rfl
    exact ⟨_, fd, F, He.glo_ok X G (c.t.d.fact 24 (f := .glo "_law_rows") rfl)⟩
  d__law_rings := by
    obtain ⟨fd, F⟩ := c.t.d.def_ 25 (d := d__law_rings) rfl
    exact ⟨_, fd, F, He.glo_ok X G (c.t.d.fact 25 (f := .glo "_law_rings") rfl)⟩
  d__law_patch := by
    obtain ⟨fd, F⟩ := c.t.d.def_ 26 (d := d__law_patch) rfl
    exact ⟨_, fd, F, He.glo_ok X G (c.t.d.fact 26 (f := .glo "_law_patch") rfl)⟩
  d__law_shape := by
    obtain ⟨fd, F⟩ := c.t.d.def_ 27 (d := d__law_shape) rfl
    exact ⟨_, fd, F, He.glo_ok X G (c.t.d.fact 27 (f := .glo "_law_shape") rfl)⟩
  d__law_less := by
    obtain ⟨fd, F⟩ := c.t.d.def_ 28 (d := d__law_less) rfl
    exact ⟨_, fd, F, He.glo_ok X G (c.t.d.fact 28 (f := .glo "_law_less") rfl)⟩
  d__law_ahead := by
    obtain ⟨fd, F⟩ := c.t.d.def_ 29 (d := d__law_ahead) rfl
    exact ⟨_, fd, F, He.glo_ok X G (c.t.d.fact 29 (f := .glo "_law_ahead") rfl)⟩
  d__law_corners := by
    obtain ⟨fd, F⟩ := c.t.d.def_ 30 (d := d__law_corners) rfl
    exact ⟨_, fd, F, He.glo_ok X G (c.t.d.fact 30 (f := .glo "_law_corners") rfl)⟩
  d__law_same := by
    obtain ⟨fd, F⟩ := c.t.d.def_ 31 (d := d__law_same) rfl
    exact ⟨_, fd, F, He.glo_ok X G (c.t.d.fact 31 (f := .glo "_law_same") rfl)⟩
  d__law_sides := by
    obtain ⟨fd, F⟩ := c.t.d.def_ 32 (d := d__law_sides) rfl
    exact ⟨_, fd, F, He.glo_ok X G (c.t.d.fact 32 (f := .glo "_law_sides") rfl)⟩
  d__law_put_in := by
    obtain ⟨fd, F⟩ := c.t.d.def_ 33 (d := d__law_put_in) rfl
    exact ⟨_, fd, F, He.glo_ok X G (c.t.d.fact 33 (f := .glo "_law_put_in") rfl)⟩
  d_law := by
    obtain ⟨fd, F⟩ := c.t.d.def_ 34 (d := d_law) rfl
    exact ⟨_, fd, F, He.glo_ok X G (c.t.d.fact 34 (f := .glo "law") rfl)⟩
end VdL

namespace VdL
open PySem PySem.W PySem.Calls PyProof.Rows L2 Vd
theorem whole_ok (pure : ∀ ns : List Int, ns.length ≤ 63 → sem 48 334 [.lst false (ns.map .int)] = .ok (.bl true, [])) : PySem.Challenge.rw_landstore_k05_sides_and_corners.Holds := by
  w_on; o_law
  refine HandSHeadRun.head_any (r := OpenLaw.row PySem.Challenge.rw_landstore_k05_sides_and_corners) (q := view (OpenLaw.row PySem.Challenge.rw_landstore_k05_sides_and_corners).prog [39]) (H := hk) (ob := ob) (M := steps) (loose := loose) (d := HandSHeadRun.topDef (OpenLaw.row PySem.Challenge.rw_landstore_k05_sides_and_corners).prog 39) (kwd := []) ob_eq
    (by kernel_rfl) (fun s => by kernel_rfl) run (by kernel_rfl) (by kernel_rfl) (by kernel_rfl) (by rfl) (by first | assumption | decide +kernel) (by decide +kernel) ⟨rfl, rfl, rfl, rfl, rfl, by decide +kernel⟩ ?hw ?hc
  case hw => w_witness2
  case hc =>
    refine law_endT (law := PySem.Challenge.rw_landstore_k05_sides_and_corners) (most := 63) (lv := 2 * 47 + 2) (x := "_law_script") rfl (by decide) (by kernel_rfl) ⟨rfl, by decide, by decide⟩ ?F
    intro w mg fa h Y G hmg0
    obtain ⟨K, KX, c⟩ := Y
    have hmg : mg ("law" : PySem.Str) = some (.ref fa) := by
      have e : (HandSHeadRun.topDef (OpenLaw.row PySem.Challenge.rw_landstore_k05_sides_and_corners).prog 39).name = ("law" : PySem.Str) := by kernel_rfl
      rw [← e]
      exact hmg0
    have A := al KX G c
    obtain ⟨f, fd, F, e⟩ := A.d_law
    cases hmg.symm.trans e
    have b := FunD.bindsA (ps := ["_law_script"]) F fun _ _ _ _ _ _ us hl => match us, hl with | [_], _ => rfl
    exact ⟨K, fd, sem 48 334, tf.map (He.cT K), KX, fun p hp => by
      obtain ⟨q, hq, rfl⟩ := List.mem_map.mp hp
      exact c.empty q hq, fun p hp => by
      obtain ⟨q, hq, rfl⟩ := List.mem_map.mp hp
      exact c.out q hq, fun p hp => by
      obtain ⟨q, hq, rfl⟩ := List.mem_map.mp hp
      exact PySem.W.codeHd_of_K KX (c.hd q hq), by
      unfold tabT
      simp only [List.forall_mem_cons]
      exact ⟨⟨_, List.mem_map.mpr ⟨("sorted_corners", none), by simp [tf], Prod.ext rfl A.a_sorted_corners⟩⟩, fun _ h => nomatch h⟩, fun s v => b s [v] rfl, pure, fun base _ _ B => ok_law A.ns (all_ok A (fun p hp => B _ (List.mem_map.mpr ⟨p, hp, rfl⟩)) 47) F⟩
end VdL
end
section
namespace Vd
open PySem L2
local macro_rules | `(tactic| and_intros) => `(tactic| simp only [frzs_tups, isFzs_tups, wR_ok, wR_bind, w_C, w_Var, g_Var1, g_Var2, w_Mv, g_Mv1, g_Mv2, w_End, w_ov, w_op, g_Op1, g_Op2, w_oz, g_Oz1, g_Oz2, w_1, w_2, w_Not, w_Isi, w_Isi2, w_Ops0, w_Ops1, w_Tup, w_N, w_Sl, w_noPart, w_aPart, k_Part, w_Chain, isB_bl, cIf_t, cIf_f, cIf_n, w_ChainE, w_If, w_And, w_Or, w_Tru, w_Val, w_BAnd, w_BOr, w_BNot, w_BYes, w_Nil, w_Br, w_Ct, g_nx, g_br, g_ct, g_rt, w_Seq, w_SIf, w_Ret, w_Drop, w_Set, g_Set, g_Tup1, g_Tup2, g_All0, g_All1, isI_int, g_Item, q_Item, w_Q0, w_Q1, w_Lst, w_Par, w_Mut, g_Mu1, g_Mu2, v_append, k_Ext, w_Ext, g_Ex1, g_Ex2, w_Call, w_Args0, w_Args1, w_Args2, g_Ar, k_Call, w_As0, w_As1, w_As2, g_As, putm0, putm1, putm2, w_O0, w_O1, w_O2, q_rt, q_nx, w_fn, slots0, slots1, slots2, aft_nx, aft_ct, aft_br, aft_rt, w_sO0, w_sO1, w_sv, w_sp, g_Sp1, g_Sp2, w_sz, g_Sz1, g_Sz2, w_For, k_For, w_Lc, w_eO0, w_eO1, w_ev, w_ep, w_ez, k_Lc, v_add, v_addL, v_addT, v_sub, v_mul, v_fdiv, v_mod, v_pow, v_neg, v_lt, v_le, v_gt, v_ge, shp_int, shp_bl, shp_non, v_eq, v_ne, v_eqB, g_Ix, v_ixL, v_ixT, g_X, v_idx, v_lenL, v_lenT, v_abs, v_max, v_min, v_tup, v_list, v_listT, v_tuple, v_tupleT, v_slL, v_slT, v_truB, v_truI, v_truT, v_truL, v_truN, v_itL, v_itT, v_r1, v_r2, v_isB, v_isN, v_isntN, List.getElem?_cons_zero, List.getElem?_cons_succ, List.set_cons_zero, List.set_cons_succ, List.length_cons, List.length_nil, List.cons_append, List.nil_append, List.append_nil, List.replicate_succ, List.replicate_zero, D.frz, frzs, D.isFz, isFzs, dwipe, restore, relk, Bool.and_true, Bool.true_and, Bool.and_false, Bool.false_and, Bool.or_true, Bool.true_or, Bool.or_false, Bool.false_or, Bool.not_true, Bool.not_false, and_true, true_and, at_of, ix_of, frzs_ints, isFzs_ints, List.length_map, Int.toNat_natCast, ↓reduceIte, Nat.reduceAdd, Nat.reduceSub, Nat.reduceLT, Nat.reduceLeDiff, Int.reduceLT, Int.reduceLE, Int.reduceEq, Int.reduceAdd, Int.reduceSub, Int.reduceMul, Int.reduceNeg, Int.reduceToNat, Int.reducePow, Int.reduceBNe, Int.reduceBEq, reduceCtorEq, mulOk_l, mulOk_r, fdivOk_s, modOk_p, powOk_s, cast_of, small_le, small_lt, filt_yes, frzs_bls, v_anyB, v_allB, cutL_map, c_isIntDN, c_isIntDB, c_isIntDI, c_isIntDS, c_isIntDT, c_isIntDL, c_isBoolDN, c_isBoolDB, c_isBoolDI, c_isBoolDS, c_isBoolDT, c_isBoolDL, c_isStrDN, c_isStrDB, c_isStrDI, c_isStrDS, c_isStrDT, c_isStrDL, c_isTupDN, c_isTupDB, c_isTupDI, c_isTupDS, c_isTupDT, c_isTupDL, c_isLstDN, c_isLstDB, c_isLstDI, c_isLstDS, c_isLstDT, c_isLstDL, c_D_isNonN, c_D_isNonB, c_D_isNonI, c_D_isNonS, c_D_isNonT, c_D_isNonL, c_frz1N, c_isFz1N, c_frz1B, c_isFz1B, c_frz1I, c_isFz1I, c_frz1S, c_isFz1S, c_frz1T, c_isFz1T, c_frz1L, c_isFz1L, v_zip, v_zipT, v_enum, v_minI, v_maxI, v_minT, v_maxT, w_CallO, w_AugI, g_Aug, intAt1, intAt2, v_int, v_intB, v_extT, v_extL, okArgs0, okArgs1, okArgs2, w_Idx, k_Idx, v_reverse, v_insert, decide_true, decide_false, Bool.and_self])
local macro_rules | `(tactic| nofun) => `(tactic| simp only [frzs_tups, isFzs_tups, wR_ok, wR_bind, w_C, w_Var, g_Var1, g_Var2, w_Mv, g_Mv1, g_Mv2, w_End, w_ov, w_op, g_Op1, g_Op2, w_oz, g_Oz1, g_Oz2, w_1, w_2, w_Not, w_Isi, w_Isi2, w_Ops0, w_Ops1, w_Tup, w_N, w_Sl, w_noPart, w_aPart, k_Part, w_Chain, isB_bl, cIf_t, cIf_f, cIf_n, w_ChainE, w_If, w_And, w_Or, w_Tru, w_Val, w_BAnd, w_BOr, w_BNot, w_BYes, w_Nil, w_Br, w_Ct, g_nx, g_br, g_ct, g_rt, w_Seq, w_SIf, w_Ret, w_Drop, w_Set, g_Set, g_Tup1, g_Tup2, g_All0, g_All1, isI_int, g_Item, q_Item, w_Q0, w_Q1, w_Lst, w_Par, w_Mut, g_Mu1, g_Mu2, v_append, k_Ext, w_Ext, g_Ex1, g_Ex2, w_Call, w_Args0, w_Args1, w_Args2, g_Ar, k_Call, w_As0, w_As1, w_As2, g_As, putm0, putm1, putm2, w_O0, w_O1, w_O2, q_rt, q_nx, w_fn, slots0, slots1, slots2, aft_nx, aft_ct, aft_br, aft_rt, w_sO0, w_sO1, w_sv, w_sp, g_Sp1, g_Sp2, w_sz, g_Sz1, g_Sz2, w_For, k_For, w_Lc, w_eO0, w_eO1, w_ev, w_ep, w_ez, k_Lc, v_add, v_addL, v_addT, v_sub, v_mul, v_fdiv, v_mod, v_pow, v_neg, v_lt, v_le, v_gt, v_ge, shp_int, shp_bl, shp_non, v_eq, v_ne, v_eqB, g_Ix, v_ixL, v_ixT, g_X, v_idx, v_lenL, v_lenT, v_abs, v_max, v_min, v_tup, v_list, v_listT, v_tuple, v_tupleT, v_slL, v_slT, v_truB, v_truI, v_truT, v_truL, v_truN, v_itL, v_itT, v_r1, v_r2, v_isB, v_isN, v_isntN, List.getElem?_cons_zero, List.getElem?_cons_succ, List.set_cons_zero, List.set_cons_succ, List.length_cons, List.length_nil, List.cons_append, List.nil_append, List.append_nil, List.replicate_succ, List.replicate_zero, D.frz, frzs, D.isFz, isFzs, dwipe, restore, relk, Bool.and_true, Bool.true_and, Bool.and_false, Bool.false_and, Bool.or_true, Bool.true_or, Bool.or_false, Bool.false_or, Bool.not_true, Bool.not_false, and_true, true_and, at_of, ix_of, frzs_ints, isFzs_ints, List.length_map, Int.toNat_natCast, ↓reduceIte, Nat.reduceAdd, Nat.reduceSub, Nat.reduceLT, Nat.reduceLeDiff, Int.reduceLT, Int.reduceLE, Int.reduceEq, Int.reduceAdd, Int.reduceSub, Int.reduceMul, Int.reduceNeg, Int.reduceToNat, Int.reducePow, Int.reduceBNe, Int.reduceBEq, reduceCtorEq, mulOk_l, mulOk_r, fdivOk_s, modOk_p, powOk_s, cast_of, small_le, small_lt, filt_yes, frzs_bls, v_anyB, v_allB, cutL_map, c_isIntDN, c_isIntDB, c_isIntDI, c_isIntDS, c_isIntDT, c_isIntDL, c_isBoolDN, c_isBoolDB, c_isBoolDI, c_isBoolDS, c_isBoolDT, c_isBoolDL, c_isStrDN, c_isStrDB, c_isStrDI, c_isStrDS, c_isStrDT, c_isStrDL, c_isTupDN, c_isTupDB, c_isTupDI, c_isTupDS, c_isTupDT, c_isTupDL, c_isLstDN, c_isLstDB, c_isLstDI, c_isLstDS, c_isLstDT, c_isLstDL, c_D_isNonN, c_D_isNonB, c_D_isNonI, c_D_isNonS, c_D_isNonT, c_D_isNonL, c_frz1N, c_isFz1N, c_frz1B, c_isFz1B, c_frz1I, c_isFz1I, c_frz1S, c_isFz1S, c_frz1T, c_isFz1T, c_frz1L, c_isFz1L, v_zip, v_zipT, v_enum, v_minI, v_maxI, v_minT, v_maxT, w_CallO, w_AugI, g_Aug, intAt1, intAt2, v_int, v_intB, v_extT, v_extL, okArgs0, okArgs1, okArgs2, w_Idx, k_Idx, v_reverse, v_insert, decide_true, decide_false, Bool.and_self, *])
def b_common_below (C : CE) : SS :=
  sSeq (sSet (gSet 1) (rC (.int 1))) (sSeq (sFor [.z 0] itemsD (gSet 2) (sSeq (sSet (gSet 3) (rCall C 3 [.vw (oz 2)])) (sSet (gSet 1) (r2 fdivD (ov (r2 mulD (op 1) (op 3))) (ov (rCall C 0 [.vw (ov (rVar 1)), .vw (ov (rVar 3))])))))) (sRet (rMv 1)))
class H_common_below (sem : Nat → CE) : Prop where
  h : ∀ (n : Nat) (args : List D), sem (n + 1) 6 args = fnRun 4 [false] (b_common_below (sem n)) args
def b_whole_by (C : CE) : SS :=
  sRet (r2 mulD (ov (rCall C 2 [.vw (ov (rVar 0))])) (ov (r2 fdivD (op 1) (ov (rCall C 3 [.vw (oz 0)])))))
class H_whole_by (sem : Nat → CE) : Prop where
  h : ∀ (n : Nat) (args : List D), sem (n + 1) 7 args = fnRun 2 [false, false] (b_whole_by (sem n)) args
def b_whole_corner (C : CE) : SS :=
  sRet (rTup [ov (rCall C 7 [.vw (ov (r2 itemD (oz 0) (ov (rC (.int 0))))), .vw (op 1)]), ov (rCall C 7 [.vw (ov (r2 itemD (oz 0) (ov (rC (.int 1))))), .vw (op 1)])])
class H_whole_corner (sem : Nat → CE) : Prop where
  h : ∀ (n : Nat) (args : List D), sem (n + 1) 8 args = fnRun 2 [false, false] (b_whole_corner (sem n)) args
def b_common_of_corners (C : CE) : SS :=
  sSeq (sSet (gSet 1) (rLst [])) (sSeq (sFor [.z 0] itemsD (gSet 2) (sDrop (rExt 1 (oz 2)))) (sRet (rCall C 6 [.vw (oz 1)])))
class H_common_of_corners (sem : Nat → CE) : Prop where
  h : ∀ (n : Nat) (args : List D), sem (n + 1) 9 args = fnRun 3 [false] (b_common_of_corners (sem n)) args
def b_turned_by (C : CE) : SS :=
  sRet (r2 subD (ov (r2 mulD (ov (r2 subD (ov (r2 itemD (oz 1) (ov (rC (.int 0))))) (ov (r2 itemD (oz 0) (ov (rC (.int 0))))))) (ov (r2 subD (ov (r2 itemD (oz 2) (ov (rC (.int 1))))) (ov (r2 itemD (oz 0) (ov (rC (.int 1))))))))) (ov (r2 mulD (ov (r2 subD (ov (r2 itemD (oz 1) (ov (rC (.int 1))))) (ov (r2 itemD (oz 0) (ov (rC (.int 1))))))) (ov (r2 subD (ov (r2 itemD (oz 2) (ov (rC (.int 0))))) (ov (r2 itemD (oz 0) (ov (rC (.int 0))))))))))
class H_turned_by (sem : Nat → CE) : Prop where
  h : ∀ (n : Nat) (args : List D), sem (n + 1) 10 args = fnRun 3 [false, false, false] (b_turned_by (sem n)) args
def b_sign_of (C : CE) : SS :=
  sRet (r2 subD (ov (rN intD' [ov (r2 gtD (op 0) (ov (rC (.int 0))))])) (ov (rN intD' [ov (r2 ltD (op 0) (ov (rC (.int 0))))])))
class H_sign_of (sem : Nat → CE) : Prop where
  h : ∀ (n : Nat) (args : List D), sem (n + 1) 11 args = fnRun 1 [false] (b_sign_of (sem n)) args
def b__law_box (C : CE) : SS :=
  sSeq (sSet (gSet 2) (rC (.int 0))) (sSeq (sIf (bVal (r2 ltD (op 1) (ov (rN lenD [op 0])))) (sSet (gSet 2) (r2 itemD (oz 0) (op 1))) (sNil)) (sRet (rLst [r2 mulD (ov (rN absD [op 2])) (ov (rN intD' [ov (r2 geD (ov (rN absD [op 2])) (ov (r2 powD (ov (rC (.int 10))) (ov (rC (.int 18))))))])), r2 modD (op 2) (ov (rC (.int 2305843009213693951))), r2 mulD (ov (rC (.int 7))) (op 1)])))
class H__law_box (sem : Nat → CE) : Prop where
  h : ∀ (n : Nat) (args : List D), sem (n + 1) 16 args = fnRun 3 [false, false] (b__law_box (sem n)) args
def b__law_takeA (C : CE) : SS :=
  sSeq (sIf (bVal (r2 gtD (ov (r2 itemD (oz 0) (ov (rC (.int 0))))) (ov (rC (.int 0))))) (sSeq (sSet (gSet 2) (r2 modD (ov (r2 itemD (oz 0) (ov (rC (.int 0))))) (op 1))) (sSeq (sSet (gItem 0 (ov (rC (.int 0)))) (r2 fdivD (ov (r2 itemD (oz 0) (ov (rC (.int 0))))) (op 1))) (sRet (rMv 2)))) (sNil)) (sSeq (sSet (gItem 0 (ov (rC (.int 2)))) (r2 addD (ov (r2 itemD (oz 0) (ov (rC (.int 2))))) (ov (rC (.int 1))))) (sSeq (sSet (gSet 3) (r2 modD (ov (r2 mulD (ov (r2 addD (ov (r2 itemD (oz 0) (ov (rC (.int 1))))) (ov (rC (.int 3))))) (ov (r2 addD (ov (rC (.int 48271))) (ov (r2 mulD (ov (r2 itemD (oz 0) (ov (rC (.int 2))))) (ov (r2 itemD (oz 0) (ov (rC (.int 2))))))))))) (ov (rC (.int 2305843009213693921))))) (sSeq (sSet (gSet 3) (r2 modD (ov (r2 mulD (op 3) (ov (r2 addD (ov (r2 addD (ov (r2 modD (op 3) (ov (rC (.int 1000003))))) (ov (r2 mulD (ov (r2 itemD (oz 0) (ov (rC (.int 2))))) (ov (rC (.int 39373))))))) (ov (rC (.int 11))))))) (ov (rC (.int 2305843009213693907))))) (sRet (r2 modD (ov (r2 addD (ov (r2 fdivD (ov (r2 mulD (op 3) (op 3))) (ov (rC (.int 97))))) (ov (r2 fdivD (op 3) (ov (rC (.int 31))))))) (op 1))))))
class H__law_takeA (sem : Nat → CE) : Prop where
  h : ∀ (n : Nat) (args : List D), sem (n + 1) 17 args = fnRun 4 [true, false] (b__law_takeA (sem n)) args

def b__law_takeB (C : CE) : SS :=
  sSeq (sIf (bVal (r2 gtD (ov (r2 itemD (oz 0) (ov (rC (.int 0))))) (ov (rC (.int 0))))) (sSeq (sSet (gSet 2) (r2 modD (ov (r2 itemD (oz 0) (ov (rC (.int 0))))) (op 1))) (sSeq (sSet (gItem 0 (ov (rC (.int 0)))) (r2 fdivD (ov (r2 itemD (oz 0) (ov (rC (.int 0))))) (op 1))) (sRet (rMv 2)))) (sNil)) (sSeq (sSet (gItem 0 (ov (rC (.int 2)))) (r2 addD (ov (r2 itemD (oz 0) (ov (rC (.int 2))))) (ov (rC (.int 1))))) (sSeq (sSet (gSet 3) (r2 modD (ov (r2 mulD (ov (r2 addD (ov (r2 itemD (oz 0) (ov (rC (.int 1))))) (ov (rC (.int 3))))) (ov (r2 addD (ov (rC (.int 48271))) (ov (r2 mulD (ov (r2 itemD (oz 0) (ov (rC (.int 2))))) (ov (r2 itemD (oz 0) (ov (rC (.int 2))))))))))) (ov (rC (.int 2305843009213693921))))) (sSeq (sSet (gSet 3) (r2 modD (ov (r2 mulD (op 3) (ov (r2 addD (ov (r2 addD (ov (r2 modD (op 3) (ov (rC (.int 1000003))))) (ov (r2 mulD (ov (r2 itemD (oz 0) (ov (rC (.int 2))))) (ov (rC (.int 69621))))))) (ov (rC (.int 11))))))) (ov (rC (.int 2305843009213693907))))) (sRet (r2 modD (ov (r2 addD (ov (r2 fdivD (ov (r2 mulD (op 3) (op 3))) (ov (rC (.int 97))))) (ov (r2 fdivD (op 3) (ov (rC (.int 31))))))) (op 1))))))
class H__law_takeB (sem : Nat → CE) : Prop where
  h : ∀ (n : Nat) (args : List D), sem (n + 1) 154 args = fnRun 4 [true, false] (b__law_takeB (sem n)) args

variable {sem : Nat → CE} {s : Nat} {x y : D}
def sc (d : D) (k : Int) : Int := topD d * k.fdiv (belD d)
theorem F_by [H_top_of sem] [H_below_of sem] [H_whole_by sem] (n : Nat) {d : D} {k : Int} {s : Nat} (h : Num s d) (h0 : 0 < s) (hs : s ≤ 8000) (hk : (k.fdiv (belD d)).natAbs < 2 ^ 8000) : sem (n + 2) 7 [d, .int k] = .ok (.int (sc d k), []) := by
  apply wR_get
  rw [H_whole_by.h (sem := sem)]
  unfold b_whole_by
  have a1 := F_top (sem := sem) n h; have a2 := F_bel (sem := sem) n h
  have f1 := h.fz; have f2 := h.frz; have f3 := h.frz1; have f4 := h.fz1
  have m1 : fdivOk k (belD d) = true := fdivOk_x (bel_pos h) (h.bel h0) (by omega)
  have m2 : mulOk (topD d) (k.fdiv (belD d)) = true := mulOk_w h.top hk (by omega)
  nofun
  rfl
theorem F_wcorner [H_top_of sem] [H_below_of sem] [H_whole_by sem] [H_whole_corner sem] (n : Nat) {c : D} {k : Int} {s : Nat} (hc : Cor s c) (h0 : 0 < s) (hs : s ≤ 8000) (hk : (k.fdiv (belD (xOf c))).natAbs < 2 ^ 8000) (hk2 : (k.fdiv (belD (yOf c))).natAbs < 2 ^ 8000) :
    sem (n + 3) 8 [c, .int k] = .ok (C2 (sc (xOf c) k, sc (yOf c) k), []) := by
  apply wR_get
  rw [H_whole_corner.h (sem := sem)]
  unfold b_whole_corner
  obtain ⟨x, y, rfl, hx, hy⟩ := hc
  have a1 := F_by (sem := sem) n hx h0 hs hk; have a2 := F_by (sem := sem) n hy h0 hs hk2
  have f1 := hx.frz; have f2 := hy.frz
  simp only [xOf, yOf] at *
  nofun
  rfl
def lcmI (f b : Int) : Int := (f * b).fdiv (Int.gcd f b)
theorem lcmI_nat (f b : Nat) : lcmI f b = (Nat.lcm f b : Nat) := by
  unfold lcmI Nat.lcm
  rw [Int.fdiv_eq_ediv_of_nonneg _ (by omega)]
  rfl
theorem lcmI_facts {f b : Int} {s u : Nat} (hf : 0 < f) (hb : 0 < b) (hs : f.natAbs < 2 ^ s) (hu : b.natAbs < 2 ^ u) : 0 < lcmI f b ∧ (lcmI f b).natAbs < 2 ^ (s + u) ∧ f ∣ lcmI f b ∧ b ∣ lcmI f b ∧ ∀ m, f ∣ m → b ∣ m → lcmI f b ∣ m := by
  obtain ⟨F, rfl⟩ := Int.eq_ofNat_of_zero_le (Int.le_of_lt hf)
  obtain ⟨B, rfl⟩ := Int.eq_ofNat_of_zero_le (Int.le_of_lt hb)
  rw [lcmI_nat]
  refine ⟨?_, ?_, ?_, ?_, fun m h1 h2 => ?_⟩
  · have := Nat.lcm_pos (m := F) (n := B) (by omega) (by omega)
    omega
  · have h1 : Nat.lcm F B ≤ F * B := Nat.div_le_self ..
    have h2 := nb_mul hs hu
    have e : ((F : Int) * B).natAbs = F * B := by rw [Int.natAbs_mul]; rfl
    rw [e] at h2
    show Nat.lcm F B < _
    omega
  · exact Int.natCast_dvd_natCast.mpr (Nat.dvd_lcm_left F B)
  · exact Int.natCast_dvd_natCast.mpr (Nat.dvd_lcm_right F B)
  · rw [← Int.natAbs_dvd_natAbs] at h1 h2 ⊢
    exact Nat.lcm_dvd h1 h2
def IsL (xs : List D) (s : Nat) (L : Int) : Prop := 0 < L ∧ L.natAbs < 2 ^ (s * xs.length + 1) ∧ (∀ d ∈ xs, belD d ∣ L) ∧ ∀ m, (∀ d ∈ xs, belD d ∣ m) → L ∣ m
theorem isL_nil (s : Nat) : IsL [] s 1 := ⟨by omega, by simp, (fun _ h => nomatch h), fun m _ => Int.one_dvd m⟩
theorem isL_snoc {xs : List D} {s : Nat} {L : Int} {d : D} (h : IsL xs s L) (hd : Num s d) (h0 : 0 < s) : IsL (xs ++ [d]) s (lcmI L (belD d)) := by
  obtain ⟨h1, h2, h3, h4⟩ := h
  obtain ⟨a, b, c, e, f⟩ := lcmI_facts h1 (bel_pos hd) h2 (hd.bel h0)
  refine ⟨a, ?_, fun x hx => ?_, fun m hm => f m (h4 m fun x hx => hm x (List.mem_append_left _ hx)) (hm d (List.mem_append_right _ (List.mem_singleton.mpr rfl)))⟩
  · rw [List.length_append, List.length_singleton, Nat.mul_add, Nat.mul_one]
    rw [show s * xs.length + s + 1 = s * xs.length + 1 + s by omega]
    exact b
  · rcases List.mem_append.mp hx with hx | hx
    · exact Int.dvd_trans (h3 x hx) c
    · rw [List.mem_singleton.mp hx]; exact e
theorem F_common [H_greatest_in_both sem] [H_below_of sem] [H_common_below sem] (n : Nat) {o : Bool} {xs : List D} {s : Nat} (hx : ∀ d ∈ xs, Num s d) (h0 : 0 < s) (hs : s * xs.length + 1 + s ≤ 8000) : ∃ L, sem (n + 2) 6 [.lst o xs] = .ok (.int L, []) ∧ IsL xs s L := by
  have : wR (sem (n + 2) 6 [.lst o xs]) fun q => ∃ L, q = (.int L, []) ∧ IsL xs s L := by
    rw [H_common_below.h (sem := sem)]
    unfold b_common_below
    have hfz : isFzs xs = true := by
      rw [isFzs_eq, List.all_eq_true]
      exact fun z hz => (hx z hz).fz
    nofun
    refine w_loop (fun i ds => ∃ f s2 s3, ds = [.lk (.lst o xs), .own (.int f), s2, s3] ∧ IsL (xs.take i) s f) (j := 0) ⟨1, _, _, rfl, isL_nil s⟩ (fun i x ds hx2 hI => ?_) (fun ds hI => ?_)
    · obtain ⟨f, s2, s3, rfl, hL⟩ := hI
      rw [Nat.zero_add] at *
      have hm := List.mem_of_getElem? hx2
      have hn := hx x hm
      have f1 := hn.fz; have f2 := hn.frz; have f3 := hn.frz1; have f4 := hn.fz1
      have a1 := F_bel (sem := sem) n hn
      have hil : (xs.take i).length ≤ xs.length := by rw [List.length_take]; omega
      have hsz : f.natAbs < 2 ^ (s * xs.length + 1) := nb_le hL.2.1 (Nat.succ_le_succ (Nat.mul_le_mul_left s hil))
      have a2 := F_gcd (sem := sem) n (nb_le hsz (show s * xs.length + 1 ≤ 8990 by omega)) (nb_le (hn.bel h0) (show s ≤ 8990 by omega)) (by omega)
      have m1 : mulOk f (belD x) = true := mulOk_w hsz (hn.bel h0) (by omega)
      have g0 : 0 < (Int.gcd f (belD x) : Int) := by
        have hz : Int.gcd f (belD x) ≠ 0 := fun z => by
          have h2 : (Int.gcd f (belD x) : Int) ∣ belD x := Int.gcd_dvd_right ..
          rw [z] at h2
          have h3 := Int.zero_dvd.mp h2
          have h4 := bel_pos hn
          omega
        omega
      have g1 : ((Int.gcd f (belD x) : Int)).natAbs < 2 ^ s := by
        have h1 := Int.le_of_dvd (bel_pos hn) (Int.gcd_dvd_right (a := f) (b := belD x))
        have h2 := hn.bel h0
        omega
      have m2 : fdivOk (f * belD x) (Int.gcd f (belD x)) = true := fdivOk_x g0 g1 (by omega)
      nofun
      refine ⟨_, _, _, rfl, ?_⟩
      rw [List.take_add_one, hx2]
      exact isL_snoc hL hn h0
    · obtain ⟨f, s2, s3, rfl, hL⟩ := hI
      rw [Nat.zero_add, List.take_length] at hL
      nofun
      exact ⟨_, rfl, hL⟩
  obtain ⟨_, e, L, rfl, hh⟩ := this
  exact ⟨L, e, hh⟩
def its : D → List D
  | .tup xs => xs
  | _ => []
def flat (cs : List D) : List D := cs.flatMap its
theorem Cor.its {s : Nat} {d : D} (h : Cor s d) : ∀ x ∈ Vd.its d, Num s x := by
  obtain ⟨x, y, rfl, hx, hy⟩ := h
  intro z hz
  simp only [Vd.its, List.mem_cons, List.not_mem_nil, or_false] at hz
  rcases hz with rfl | rfl
  · exact hx
  · exact hy
theorem flat_num {s : Nat} {cs : List D} (h : ∀ c ∈ cs, Cor s c) : ∀ x ∈ flat cs, Num s x := by
  intro x hx
  obtain ⟨c, hc, hx⟩ := List.mem_flatMap.mp hx
  exact (h c hc).its x hx
theorem flat_len {s : Nat} {cs : List D} (h : ∀ c ∈ cs, Cor s c) : (flat cs).length = 2 * cs.length := by
  induction cs with
  | nil => rfl
  | cons c cs ih =>
    have h1 := ih fun x hx => h x (List.mem_cons_of_mem _ hx)
    obtain ⟨x, y, rfl, _⟩ := h c List.mem_cons_self
    unfold flat at h1 ⊢
    rw [List.flatMap_cons, List.length_append, h1]
    simp [its]; omega
end Vd
end
section
namespace Vd
open PySem L2
def lxlt (a b : P2) : Prop := a.1 < b.1 ∨ (a.1 = b.1 ∧ a.2 < b.2)
def lxle (a b : P2) : Prop := a.1 < b.1 ∨ (a.1 = b.1 ∧ a.2 ≤ b.2)
instance decLxlt (a b : P2) : Decidable (lxlt a b) := inferInstanceAs (Decidable (_ ∨ _))
instance decLxle (a b : P2) : Decidable (lxle a b) := inferInstanceAs (Decidable (_ ∨ _))
def pmin (a b : P2) : P2 := if lxlt b a then b else a
def pmax (a b : P2) : P2 := if lxlt a b then b else a
variable {a b : P2}
theorem C2_inj (h : C2 a = C2 b) : a = b := by
  unfold C2 at h
  simp only [D.tup.injEq, List.cons.injEq, D.int.injEq, and_true] at h
  exact Prod.ext h.1 h.2
theorem C2_pl : (C2 a).pl 1 = true := by unfold C2; simp [D.pl, pls]
theorem c2_fz : (C2 a).isFz = true := rfl
theorem c2_frz : (C2 a).frz = C2 a := rfl
theorem c2_fz1 : (C2 a).isFz1 = true := rfl
theorem c2_frz1 : (C2 a).frz1 = C2 a := rfl
theorem c2_0 : itemD (C2 a) (.int 0) = .ok (.int a.1) := rfl
theorem c2_1 : itemD (C2 a) (.int 1) = .ok (.int a.2) := rfl
theorem c2_tup {gs : List GS} {ds : Ds} {Q : Ds → Prop} : wR (gTup' gs (C2 a) ds) Q = wR (gAll gs [.int a.1, .int a.2] ds) Q := rfl
theorem c2_eq : eqD (C2 a) (C2 b) = .ok (.bl (decide (a = b))) := by
  rw [eq_pl C2_pl C2_pl (by omega) (by omega)]
  congr 2
  exact decide_eq_decide.mpr ⟨C2_inj, fun h => by rw [h]⟩
theorem c2_ne : neD (C2 a) (C2 b) = .ok (.bl (!decide (a = b))) := by
  rw [ne_pl C2_pl C2_pl (by omega) (by omega)]
  congr 3
  exact decide_eq_decide.mpr ⟨C2_inj, fun h => by rw [h]⟩
theorem c2_lt : ltD (C2 a) (C2 b) = .ok (.bl (decide (lxlt a b))) := by
  show ltT [.int a.1, .int a.2] [.int b.1, .int b.2] = _
  unfold ltT
  simp only [intsD, Option.map_some]
  congr 2
  rw [Bool.eq_iff_iff]
  rw [decide_eq_true_eq (p := lxlt a b)]
  unfold lxlt
  simp only [HT.lexLt]
  by_cases h : a.1 = b.1
  · rw [if_pos h]
    by_cases k : a.2 = b.2
    · rw [if_pos k]; exact ⟨fun z => (Bool.noConfusion z), fun hh => by omega⟩
    · rw [if_neg k, decide_eq_true_eq]; omega
  · rw [if_neg h, decide_eq_true_eq]; omega
theorem c2_le : leD (C2 a) (C2 b) = .ok (.bl (decide (lxle a b))) := by
  show leT [.int a.1, .int a.2] [.int b.1, .int b.2] = _
  unfold leT
  simp only [intsD, Option.map_some]
  congr 2
  rw [Bool.eq_iff_iff]
  show (Ob.lexAt _ _ _ 0 2 = true) ↔ _
  rw [Ob.lexAt_succ, Ob.lexAt_succ, Ob.lexAt_zero]
  rw [decide_eq_true_eq (p := lxle a b)]
  unfold lxle
  simp only [decide_eq_true_eq, List.getD_cons_zero, List.getD_cons_succ]
  by_cases h : a.1 = b.1
  · rw [if_pos h]
    by_cases k : a.2 = b.2
    · rw [if_pos k]; exact ⟨fun _ => by omega, fun _ => rfl⟩
    · rw [if_neg k, decide_eq_true_eq]; omega
  · rw [if_neg h, decide_eq_true_eq]; omega
theorem c2_alk : alk2 (C2 a).py (C2 b).py = true := by
  simp [alk2, C2, D.py, pys, PySem.W.alike, PySem.W.alikeAll, noneB, SeqAt.shaped, PyData.canLay0, PyData.canLayAll0, PyData.depth, PyData.depthAll]
theorem c2_dlt : PySem.W.dataLt (C2 a).py (C2 b).py = decide (lxlt a b) := by
  show PySem.W.dataLt (.tuple [.int a.1, .int a.2]) (.tuple [.int b.1, .int b.2]) = _
  rw [PySem.W.dataLt_ii]
  rfl
theorem c2_min : min2A [C2 a, C2 b] = .ok (C2 (pmin a b)) := by
  show (if (true && true && alk2 (C2 a).py (C2 b).py) = true then (Res.ok (if PySem.W.dataLt (C2 b).py (C2 a).py = true then C2 b else C2 a)) else .bad) = _
  rw [c2_alk, c2_dlt]
  simp only [Bool.and_self, if_true]
  unfold pmin
  by_cases h : lxlt b a <;> simp [h]
theorem c2_max : max2A [C2 a, C2 b] = .ok (C2 (pmax a b)) := by
  show (if (true && true && alk2 (C2 a).py (C2 b).py) = true then (Res.ok (if PySem.W.dataLt (C2 a).py (C2 b).py = true then C2 b else C2 a)) else .bad) = _
  rw [c2_alk, c2_dlt]
  simp only [Bool.and_self, if_true]
  unfold pmax
  by_cases h : lxlt a b <;> simp [h]
theorem c2s_pl {cs : List P2} : ∀ c ∈ cs.map C2, c.pl 1 = true := fun c hc => by
  obtain ⟨p, _, rfl⟩ := List.mem_map.mp hc
  exact C2_pl
theorem c2_mem {cs : List P2} : C2 a ∈ cs.map C2 ↔ a ∈ cs := by
  constructor
  · intro h
    obtain ⟨p, hp, e⟩ := List.mem_map.mp h
    rw [← C2_inj e]; exact hp
  · exact List.mem_map_of_mem
theorem c2_inT {neg : Bool} {cs : List P2} : inD neg (C2 a) (.tup (cs.map C2)) = .ok (.bl (decide (a ∈ cs) != neg)) := by
  rw [in_plT C2_pl c2s_pl (by omega) (by omega)]
  congr 3
  exact decide_eq_decide.mpr c2_mem
theorem c2_inL {neg o : Bool} {cs : List P2} : inD neg (C2 a) (.lst o (cs.map C2)) = .ok (.bl (decide (a ∈ cs) != neg)) := by
  rw [in_plL C2_pl c2s_pl (by omega) (by omega)]
  congr 3
  exact decide_eq_decide.mpr c2_mem
theorem c2s_frz (r : List P2) : frzs (r.map C2) = r.map C2 := frzs_of (c2s_fz r)
def trn (a b c : P2) : Int := (b.1 - a.1) * (c.2 - a.2) - (b.2 - a.2) * (c.1 - a.1)
def OnS (c a b : P2) : Prop := trn a b c = 0 ∧ (min a.1 b.1 ≤ c.1 ∧ c.1 ≤ max a.1 b.1) ∧ (min a.2 b.2 ≤ c.2 ∧ c.2 ≤ max a.2 b.2)
instance decOnS (c a b : P2) : Decidable (OnS c a b) := inferInstanceAs (Decidable (_ ∧ _))
def b_lies_on (C : CE) : SS :=
  sSeq (sIf (bVal (r2 neD (ov (rCall C 10 [.vw (oz 1), .vw (oz 2), .vw (oz 0)])) (ov (rC (.int 0))))) (sRet (rC (.bl false))) (sNil)) (sRet (rChain leD leD (ov (rN min2A [op 1, op 2])) (op 0) (ov (rN max2A [op 1, op 2]))))
class H_lies_on (sem : Nat → CE) : Prop where
  h : ∀ (n : Nat) (args : List D), sem (n + 1) 13 args = fnRun 3 [false, false, false] (b_lies_on (sem n)) args

local macro_rules | `(tactic| and_intros) => `(tactic| simp only [c2_fz, c2_frz, c2_fz1, c2_frz1, c2_0, c2_1, c2_tup, c2_eq, c2_ne, c2_lt, c2_le, c2_min, c2_max, c2_inT, c2_inL, c2s_frz, c2s_fz, wR_ok, wR_bind, w_C, w_Var, g_Var1, g_Var2, w_Mv, g_Mv1, g_Mv2, w_End, w_ov, w_op, g_Op1, g_Op2, w_oz, g_Oz1, g_Oz2, w_1, w_2, w_Not, w_Isi, w_Isi2, w_Ops0, w_Ops1, w_Tup, w_N, w_Sl, w_noPart, w_aPart, k_Part, w_Chain, isB_bl, cIf_t, cIf_f, cIf_n, w_ChainE, w_If, w_And, w_Or, w_Tru, w_Val, w_BAnd, w_BOr, w_BNot, w_BYes, w_Nil, w_Br, w_Ct, g_nx, g_br, g_ct, g_rt, w_Seq, w_SIf, w_Ret, w_Drop, w_Set, g_Set, g_Tup1, g_Tup2, g_All0, g_All1, isI_int, g_Item, q_Item, w_Q0, w_Q1, w_Lst, w_Par, w_Mut, g_Mu1, g_Mu2, v_append, k_Ext, w_Ext, g_Ex1, g_Ex2, w_Call, w_Args0, w_Args1, w_Args2, g_Ar, k_Call, w_As0, w_As1, w_As2, g_As, putm0, putm1, putm2, w_O0, w_O1, w_O2, q_rt, q_nx, w_fn, slots0, slots1, slots2, aft_nx, aft_ct, aft_br, aft_rt, w_sO0, w_sO1, w_sv, w_sp, g_Sp1, g_Sp2, w_sz, g_Sz1, g_Sz2, w_For, k_For, w_Lc, w_eO0, w_eO1, w_ev, w_ep, w_ez, k_Lc, v_add, v_addL, v_addT, v_sub, v_mul, v_fdiv, v_mod, v_pow, v_neg, v_lt, v_le, v_gt, v_ge, shp_int, shp_bl, shp_non, v_eq, v_ne, v_eqB, g_Ix, v_ixL, v_ixT, g_X, v_idx, v_lenL, v_lenT, v_abs, v_max, v_min, v_tup, v_list, v_listT, v_tuple, v_tupleT, v_slL, v_slT, v_truB, v_truI, v_truT, v_truL, v_truN, v_itL, v_itT, v_r1, v_r2, v_isB, v_isN, v_isntN, List.getElem?_cons_zero, List.getElem?_cons_succ, List.set_cons_zero, List.set_cons_succ, List.length_cons, List.length_nil, List.cons_append, List.nil_append, List.append_nil, List.replicate_succ, List.replicate_zero, D.frz, frzs, D.isFz, isFzs, dwipe, restore, relk, Bool.and_true, Bool.true_and, Bool.and_false, Bool.false_and, Bool.or_true, Bool.true_or, Bool.or_false, Bool.false_or, Bool.not_true, Bool.not_false, and_true, true_and, at_of, ix_of, frzs_ints, isFzs_ints, List.length_map, Int.toNat_natCast, ↓reduceIte, Nat.reduceAdd, Nat.reduceSub, Nat.reduceLT, Nat.reduceLeDiff, Int.reduceLT, Int.reduceLE, Int.reduceEq, Int.reduceAdd, Int.reduceSub, Int.reduceMul, Int.reduceNeg, Int.reduceToNat, Int.reducePow, Int.reduceBNe, Int.reduceBEq, reduceCtorEq, mulOk_l, mulOk_r, fdivOk_s, modOk_p, powOk_s, cast_of, small_le, small_lt, filt_yes, frzs_bls, v_anyB, v_allB, cutL_map, c_isIntDN, c_isIntDB, c_isIntDI, c_isIntDS, c_isIntDT, c_isIntDL, c_isBoolDN, c_isBoolDB, c_isBoolDI, c_isBoolDS, c_isBoolDT, c_isBoolDL, c_isStrDN, c_isStrDB, c_isStrDI, c_isStrDS, c_isStrDT, c_isStrDL, c_isTupDN, c_isTupDB, c_isTupDI, c_isTupDS, c_isTupDT, c_isTupDL, c_isLstDN, c_isLstDB, c_isLstDI, c_isLstDS, c_isLstDT, c_isLstDL, c_D_isNonN, c_D_isNonB, c_D_isNonI, c_D_isNonS, c_D_isNonT, c_D_isNonL, c_frz1N, c_isFz1N, c_frz1B, c_isFz1B, c_frz1I, c_isFz1I, c_frz1S, c_isFz1S, c_frz1T, c_isFz1T, c_frz1L, c_isFz1L, v_zip, v_zipT, v_enum, v_minI, v_maxI, v_minT, v_maxT, w_CallO, w_AugI, g_Aug, intAt1, intAt2, v_int, v_intB, v_extT, v_extL, okArgs0, okArgs1, okArgs2, w_Idx, k_Idx, v_reverse, v_insert, decide_true, decide_false, Bool.and_self])
local macro_rules | `(tactic| nofun) => `(tactic| simp only [c2_fz, c2_frz, c2_fz1, c2_frz1, c2_0, c2_1, c2_tup, c2_eq, c2_ne, c2_lt, c2_le, c2_min, c2_max, c2_inT, c2_inL, c2s_frz, c2s_fz, wR_ok, wR_bind, w_C, w_Var, g_Var1, g_Var2, w_Mv, g_Mv1, g_Mv2, w_End, w_ov, w_op, g_Op1, g_Op2, w_oz, g_Oz1, g_Oz2, w_1, w_2, w_Not, w_Isi, w_Isi2, w_Ops0, w_Ops1, w_Tup, w_N, w_Sl, w_noPart, w_aPart, k_Part, w_Chain, isB_bl, cIf_t, cIf_f, cIf_n, w_ChainE, w_If, w_And, w_Or, w_Tru, w_Val, w_BAnd, w_BOr, w_BNot, w_BYes, w_Nil, w_Br, w_Ct, g_nx, g_br, g_ct, g_rt, w_Seq, w_SIf, w_Ret, w_Drop, w_Set, g_Set, g_Tup1, g_Tup2, g_All0, g_All1, isI_int, g_Item, q_Item, w_Q0, w_Q1, w_Lst, w_Par, w_Mut, g_Mu1, g_Mu2, v_append, k_Ext, w_Ext, g_Ex1, g_Ex2, w_Call, w_Args0, w_Args1, w_Args2, g_Ar, k_Call, w_As0, w_As1, w_As2, g_As, putm0, putm1, putm2, w_O0, w_O1, w_O2, q_rt, q_nx, w_fn, slots0, slots1, slots2, aft_nx, aft_ct, aft_br, aft_rt, w_sO0, w_sO1, w_sv, w_sp, g_Sp1, g_Sp2, w_sz, g_Sz1, g_Sz2, w_For, k_For, w_Lc, w_eO0, w_eO1, w_ev, w_ep, w_ez, k_Lc, v_add, v_addL, v_addT, v_sub, v_mul, v_fdiv, v_mod, v_pow, v_neg, v_lt, v_le, v_gt, v_ge, shp_int, shp_bl, shp_non, v_eq, v_ne, v_eqB, g_Ix, v_ixL, v_ixT, g_X, v_idx, v_lenL, v_lenT, v_abs, v_max, v_min, v_tup, v_list, v_listT, v_tuple, v_tupleT, v_slL, v_slT, v_truB, v_truI, v_truT, v_truL, v_truN, v_itL, v_itT, v_r1, v_r2, v_isB, v_isN, v_isntN, List.getElem?_cons_zero, List.getElem?_cons_succ, List.set_cons_zero, List.set_cons_succ, List.length_cons, List.length_nil, List.cons_append, List.nil_append, List.append_nil, List.replicate_succ, List.replicate_zero, D.frz, frzs, D.isFz, isFzs, dwipe, restore, relk, Bool.and_true, Bool.true_and, Bool.and_false, Bool.false_and, Bool.or_true, Bool.true_or, Bool.or_false, Bool.false_or, Bool.not_true, Bool.not_false, and_true, true_and, at_of, ix_of, frzs_ints, isFzs_ints, List.length_map, Int.toNat_natCast, ↓reduceIte, Nat.reduceAdd, Nat.reduceSub, Nat.reduceLT, Nat.reduceLeDiff, Int.reduceLT, Int.reduceLE, Int.reduceEq, Int.reduceAdd, Int.reduceSub, Int.reduceMul, Int.reduceNeg, Int.reduceToNat, Int.reducePow, Int.reduceBNe, Int.reduceBEq, reduceCtorEq, mulOk_l, mulOk_r, fdivOk_s, modOk_p, powOk_s, cast_of, small_le, small_lt, filt_yes, frzs_bls, v_anyB, v_allB, cutL_map, c_isIntDN, c_isIntDB, c_isIntDI, c_isIntDS, c_isIntDT, c_isIntDL, c_isBoolDN, c_isBoolDB, c_isBoolDI, c_isBoolDS, c_isBoolDT, c_isBoolDL, c_isStrDN, c_isStrDB, c_isStrDI, c_isStrDS, c_isStrDT, c_isStrDL, c_isTupDN, c_isTupDB, c_isTupDI, c_isTupDS, c_isTupDT, c_isTupDL, c_isLstDN, c_isLstDB, c_isLstDI, c_isLstDS, c_isLstDT, c_isLstDL, c_D_isNonN, c_D_isNonB, c_D_isNonI, c_D_isNonS, c_D_isNonT, c_D_isNonL, c_frz1N, c_isFz1N, c_frz1B, c_isFz1B, c_frz1I, c_isFz1I, c_frz1S, c_isFz1S, c_frz1T, c_isFz1T, c_frz1L, c_isFz1L, v_zip, v_zipT, v_enum, v_minI, v_maxI, v_minT, v_maxT, w_CallO, w_AugI, g_Aug, intAt1, intAt2, v_int, v_intB, v_extT, v_extL, okArgs0, okArgs1, okArgs2, w_Idx, k_Idx, v_reverse, v_insert, decide_true, decide_false, Bool.and_self, *])
def Sm (s : Nat) (p : P2) : Prop := p.1.natAbs < 2 ^ s ∧ p.2.natAbs < 2 ^ s
end Vd
end
section
namespace Vd
open PySem L2
theorem lp0 {g : GS} {b : SS} {ds : Ds} {Q : Fl → Ds → Prop} : wS (loopF g b []) ds Q = Q .nx ds := by rw [wS_eq]; exact wR_ok
theorem lp1 {g : GS} {b : SS} {x : D} {xs : List D} {ds : Ds} {Q : Fl → Ds → Prop} : wS (loopF g b (x :: xs)) ds Q = wR (g x ds) fun ds1 => wS b ds1 fun f ds2 => aft f (wS (loopF g b xs) ds2 Q) (Q .nx ds2) fun d => Q (.rt d) ds2 := by
  rw [wS_eq]
  show wR (Res.bind _ _) _ = _
  rw [wR_bind]
  refine wR_ext fun ds1 => ?_
  rw [wR_bind, wS_eq]
  refine wR_ext fun p => ?_
  rcases p with ⟨f, ds2⟩
  cases f with
  | nx => exact wS_eq.symm
  | ct => exact wS_eq.symm
  | br => exact wR_ok
  | rt d => exact wR_ok
theorem lc0 {vs : List Nat} {g : GS} {tt : BS} {elt : ES} {ds : Ds} {Q : List D → Ds → Prop} : wL vs g tt elt [] ds Q = Q [] ds := wR_ok
theorem lc1 {vs : List Nat} {g : GS} {tt : BS} {elt : ES} {x : D} {xs : List D} {ds : Ds} {Q : List D → Ds → Prop} : wL vs g tt elt (x :: xs) ds Q = wR (g x (dwipe ds vs)) fun ds1 => wB tt ds1 fun c ds2 => cIf c (wE elt ds2 fun v ds3 => wL vs g tt elt xs ds3 fun out ds4 => Q (v :: out) ds4) (wL vs g tt elt xs ds2 Q) := by
  show wR (Res.bind _ _) _ = _
  rw [wR_bind]
  refine wR_ext fun ds1 => ?_
  rw [wR_bind, wB_eq]
  refine wR_ext fun p => ?_
  rcases p with ⟨c, ds2⟩
  cases c with
  | false => rfl
  | true =>
    show wR (Res.bind _ _) _ = wE _ _ _
    rw [wR_bind, wE_eq]
    refine wR_ext fun q => ?_
    rw [wR_bind]
    exact wR_ext fun r => wR_ok
theorem neB {i j : Bool} : neD (.bl i) (.bl j) = .ok (.bl (!(i == j))) := by
  unfold neD; rw [shp_bl, shp_bl]; rfl
theorem beq_tt : (true == true) = true := rfl
theorem beq_ff : (false == false) = true := rfl
theorem beq_tf : (true == false) = false := rfl
theorem beq_ft : (false == true) = false := rfl
local macro_rules | `(tactic| and_intros) => `(tactic| simp only [neB, beq_tt, beq_ff, beq_tf, beq_ft, c2_fz, c2_frz, c2_fz1, c2_frz1, c2_0, c2_1, c2_tup, c2_eq, c2_ne, c2_lt, c2_le, c2_min, c2_max, c2_inT, c2_inL, c2s_frz, c2s_fz, lp0, lp1, lc0, lc1, wR_ok, wR_bind, w_C, w_Var, g_Var1, g_Var2, w_Mv, g_Mv1, g_Mv2, w_End, w_ov, w_op, g_Op1, g_Op2, w_oz, g_Oz1, g_Oz2, w_1, w_2, w_Not, w_Isi, w_Isi2, w_Ops0, w_Ops1, w_Tup, w_N, w_Sl, w_noPart, w_aPart, k_Part, w_Chain, isB_bl, cIf_t, cIf_f, cIf_n, w_ChainE, w_If, w_And, w_Or, w_Tru, w_Val, w_BAnd, w_BOr, w_BNot, w_BYes, w_Nil, w_Br, w_Ct, g_nx, g_br, g_ct, g_rt, w_Seq, w_SIf, w_Ret, w_Drop, w_Set, g_Set, g_Tup1, g_Tup2, g_All0, g_All1, isI_int, g_Item, q_Item, w_Q0, w_Q1, w_Lst, w_Par, w_Mut, g_Mu1, g_Mu2, v_append, k_Ext, w_Ext, g_Ex1, g_Ex2, w_Call, w_Args0, w_Args1, w_Args2, g_Ar, k_Call, w_As0, w_As1, w_As2, g_As, putm0, putm1, putm2, w_O0, w_O1, w_O2, q_rt, q_nx, w_fn, slots0, slots1, slots2, aft_nx, aft_ct, aft_br, aft_rt, w_sO0, w_sO1, w_sv, w_sp, g_Sp1, g_Sp2, w_sz, g_Sz1, g_Sz2, w_For, k_For, w_Lc, w_eO0, w_eO1, w_ev, w_ep, w_ez, k_Lc, v_add, v_addL, v_addT, v_sub, v_mul, v_fdiv, v_mod, v_pow, v_neg, v_lt, v_le, v_gt, v_ge, shp_int, shp_bl, shp_non, v_eq, v_ne, v_eqB, g_Ix, v_ixL, v_ixT, g_X, v_idx, v_lenL, v_lenT, v_abs, v_max, v_min, v_tup, v_list, v_listT, v_tuple, v_tupleT, v_slL, v_slT, v_truB, v_truI, v_truT, v_truL, v_truN, v_itL, v_itT, v_r1, v_r2, v_isB, v_isN, v_isntN, List.getElem?_cons_zero, List.getElem?_cons_succ, List.set_cons_zero, List.set_cons_succ, List.length_cons, List.length_nil, List.cons_append, List.nil_append, List.append_nil, List.replicate_succ, List.replicate_zero, D.frz, frzs, D.isFz, isFzs, dwipe, restore, relk, Bool.and_true, Bool.true_and, Bool.and_false, Bool.false_and, Bool.or_true, Bool.true_or, Bool.or_false, Bool.false_or, Bool.not_true, Bool.not_false, and_true, true_and, at_of, ix_of, frzs_ints, isFzs_ints, List.length_map, Int.toNat_natCast, ↓reduceIte, Nat.reduceAdd, Nat.reduceSub, Nat.reduceLT, Nat.reduceLeDiff, Int.reduceLT, Int.reduceLE, Int.reduceEq, Int.reduceAdd, Int.reduceSub, Int.reduceMul, Int.reduceNeg, Int.reduceToNat, Int.reducePow, Int.reduceBNe, Int.reduceBEq, reduceCtorEq, mulOk_l, mulOk_r, fdivOk_s, modOk_p, powOk_s, cast_of, small_le, small_lt, filt_yes, frzs_bls, v_anyB, v_allB, cutL_map, c_isIntDN, c_isIntDB, c_isIntDI, c_isIntDS, c_isIntDT, c_isIntDL, c_isBoolDN, c_isBoolDB, c_isBoolDI, c_isBoolDS, c_isBoolDT, c_isBoolDL, c_isStrDN, c_isStrDB, c_isStrDI, c_isStrDS, c_isStrDT, c_isStrDL, c_isTupDN, c_isTupDB, c_isTupDI, c_isTupDS, c_isTupDT, c_isTupDL, c_isLstDN, c_isLstDB, c_isLstDI, c_isLstDS, c_isLstDT, c_isLstDL, c_D_isNonN, c_D_isNonB, c_D_isNonI, c_D_isNonS, c_D_isNonT, c_D_isNonL, c_frz1N, c_isFz1N, c_frz1B, c_isFz1B, c_frz1I, c_isFz1I, c_frz1S, c_isFz1S, c_frz1T, c_isFz1T, c_frz1L, c_isFz1L, v_zip, v_zipT, v_enum, v_minI, v_maxI, v_minT, v_maxT, w_CallO, w_AugI, g_Aug, intAt1, intAt2, v_int, v_intB, v_extT, v_extL, okArgs0, okArgs1, okArgs2, w_Idx, k_Idx, v_reverse, v_insert, decide_true, decide_false, Bool.and_self])
local macro_rules | `(tactic| nofun) => `(tactic| simp only [neB, beq_tt, beq_ff, beq_tf, beq_ft, c2_fz, c2_frz, c2_fz1, c2_frz1, c2_0, c2_1, c2_tup, c2_eq, c2_ne, c2_lt, c2_le, c2_min, c2_max, c2_inT, c2_inL, c2s_frz, c2s_fz, lp0, lp1, lc0, lc1, wR_ok, wR_bind, w_C, w_Var, g_Var1, g_Var2, w_Mv, g_Mv1, g_Mv2, w_End, w_ov, w_op, g_Op1, g_Op2, w_oz, g_Oz1, g_Oz2, w_1, w_2, w_Not, w_Isi, w_Isi2, w_Ops0, w_Ops1, w_Tup, w_N, w_Sl, w_noPart, w_aPart, k_Part, w_Chain, isB_bl, cIf_t, cIf_f, cIf_n, w_ChainE, w_If, w_And, w_Or, w_Tru, w_Val, w_BAnd, w_BOr, w_BNot, w_BYes, w_Nil, w_Br, w_Ct, g_nx, g_br, g_ct, g_rt, w_Seq, w_SIf, w_Ret, w_Drop, w_Set, g_Set, g_Tup1, g_Tup2, g_All0, g_All1, isI_int, g_Item, q_Item, w_Q0, w_Q1, w_Lst, w_Par, w_Mut, g_Mu1, g_Mu2, v_append, k_Ext, w_Ext, g_Ex1, g_Ex2, w_Call, w_Args0, w_Args1, w_Args2, g_Ar, k_Call, w_As0, w_As1, w_As2, g_As, putm0, putm1, putm2, w_O0, w_O1, w_O2, q_rt, q_nx, w_fn, slots0, slots1, slots2, aft_nx, aft_ct, aft_br, aft_rt, w_sO0, w_sO1, w_sv, w_sp, g_Sp1, g_Sp2, w_sz, g_Sz1, g_Sz2, w_For, k_For, w_Lc, w_eO0, w_eO1, w_ev, w_ep, w_ez, k_Lc, v_add, v_addL, v_addT, v_sub, v_mul, v_fdiv, v_mod, v_pow, v_neg, v_lt, v_le, v_gt, v_ge, shp_int, shp_bl, shp_non, v_eq, v_ne, v_eqB, g_Ix, v_ixL, v_ixT, g_X, v_idx, v_lenL, v_lenT, v_abs, v_max, v_min, v_tup, v_list, v_listT, v_tuple, v_tupleT, v_slL, v_slT, v_truB, v_truI, v_truT, v_truL, v_truN, v_itL, v_itT, v_r1, v_r2, v_isB, v_isN, v_isntN, List.getElem?_cons_zero, List.getElem?_cons_succ, List.set_cons_zero, List.set_cons_succ, List.length_cons, List.length_nil, List.cons_append, List.nil_append, List.append_nil, List.replicate_succ, List.replicate_zero, D.frz, frzs, D.isFz, isFzs, dwipe, restore, relk, Bool.and_true, Bool.true_and, Bool.and_false, Bool.false_and, Bool.or_true, Bool.true_or, Bool.or_false, Bool.false_or, Bool.not_true, Bool.not_false, and_true, true_and, at_of, ix_of, frzs_ints, isFzs_ints, List.length_map, Int.toNat_natCast, ↓reduceIte, Nat.reduceAdd, Nat.reduceSub, Nat.reduceLT, Nat.reduceLeDiff, Int.reduceLT, Int.reduceLE, Int.reduceEq, Int.reduceAdd, Int.reduceSub, Int.reduceMul, Int.reduceNeg, Int.reduceToNat, Int.reducePow, Int.reduceBNe, Int.reduceBEq, reduceCtorEq, mulOk_l, mulOk_r, fdivOk_s, modOk_p, powOk_s, cast_of, small_le, small_lt, filt_yes, frzs_bls, v_anyB, v_allB, cutL_map, c_isIntDN, c_isIntDB, c_isIntDI, c_isIntDS, c_isIntDT, c_isIntDL, c_isBoolDN, c_isBoolDB, c_isBoolDI, c_isBoolDS, c_isBoolDT, c_isBoolDL, c_isStrDN, c_isStrDB, c_isStrDI, c_isStrDS, c_isStrDT, c_isStrDL, c_isTupDN, c_isTupDB, c_isTupDI, c_isTupDS, c_isTupDT, c_isTupDL, c_isLstDN, c_isLstDB, c_isLstDI, c_isLstDS, c_isLstDT, c_isLstDL, c_D_isNonN, c_D_isNonB, c_D_isNonI, c_D_isNonS, c_D_isNonT, c_D_isNonL, c_frz1N, c_isFz1N, c_frz1B, c_isFz1B, c_frz1I, c_isFz1I, c_frz1S, c_isFz1S, c_frz1T, c_isFz1T, c_frz1L, c_isFz1L, v_zip, v_zipT, v_enum, v_minI, v_maxI, v_minT, v_maxT, w_CallO, w_AugI, g_Aug, intAt1, intAt2, v_int, v_intB, v_extT, v_extL, okArgs0, okArgs1, okArgs2, w_Idx, k_Idx, v_reverse, v_insert, decide_true, decide_false, Bool.and_self, *])
def b_turn_of (C : CE) : SS :=
  sSeq (sSet (gSet 3) (rCall C 9 [.vw (ov (rTup [ov (rVar 0), ov (rVar 1), ov (rVar 2)]))])) (sRet (rCall C 11 [.vw (ov (rCall C 10 [.vw (ov (rCall C 8 [.vw (oz 0), .vw (op 3)])), .vw (ov (rCall C 8 [.vw (oz 1), .vw (op 3)])), .vw (ov (rCall C 8 [.vw (oz 2), .vw (op 3)]))]))]))
class H_turn_of (sem : Nat → CE) : Prop where
  h : ∀ (n : Nat) (args : List D), sem (n + 1) 12 args = fnRun 4 [false, false, false] (b_turn_of (sem n)) args
def b_on_side (C : CE) : SS :=
  sSeq (sSet (gSet 2) (rCall C 9 [.vw (ov (r2 addD (ov (rTup [ov (rVar 0)])) (ov (rN tupleD' [oz 1]))))])) (sRet (rCall C 13 [.vw (ov (rCall C 8 [.vw (oz 0), .vw (op 2)])), .vw (ov (rCall C 8 [.vw (ov (r2 itemD (oz 1) (ov (rC (.int 0))))), .vw (op 2)])), .vw (ov (rCall C 8 [.vw (ov (r2 itemD (oz 1) (ov (rC (.int 1))))), .vw (op 2)]))]))
class H_on_side (sem : Nat → CE) : Prop where
  h : ∀ (n : Nat) (args : List D), sem (n + 1) 14 args = fnRun 3 [false, false] (b_on_side (sem n)) args
def b_middle (C : CE) : SS :=
  sRet (rTup [ov (rCall C 5 [.vw (ov (rCall C 4 [.vw (ov (r2 itemD (oz 0) (ov (rC (.int 0))))), .vw (ov (r2 itemD (oz 1) (ov (rC (.int 0)))))])), .vw (ov (rC (.int 2)))]), ov (rCall C 5 [.vw (ov (rCall C 4 [.vw (ov (r2 itemD (oz 0) (ov (rC (.int 1))))), .vw (ov (r2 itemD (oz 1) (ov (rC (.int 1)))))])), .vw (ov (rC (.int 2)))])])
class H_middle (sem : Nat → CE) : Prop where
  h : ∀ (n : Nat) (args : List D), sem (n + 1) 15 args = fnRun 2 [false, false] (b_middle (sem n)) args
def b__law_cornerA (C : CE) : SS :=
  sRet (rTup [ov (r2 subD (ov (rCall C 17 [.mu 0, .vw (ov (r2 addD (ov (r2 mulD (ov (rC (.int 2))) (op 1))) (ov (rC (.int 1)))))])) (op 1)), ov (r2 subD (ov (rCall C 17 [.mu 0, .vw (ov (r2 addD (ov (r2 mulD (ov (rC (.int 2))) (op 1))) (ov (rC (.int 1)))))])) (op 1))])
class H__law_cornerA (sem : Nat → CE) : Prop where
  h : ∀ (n : Nat) (args : List D), sem (n + 1) 18 args = fnRun 2 [true, false] (b__law_cornerA (sem n)) args
def b__law_parts (C : CE) : SS :=
  sRet (rIf (bTru (ov (rIsi isTupD (op 0)))) (rVar 0) (rTup [ov (rVar 0), ov (rC (.int 1))]))
class H__law_parts (sem : Nat → CE) : Prop where
  h : ∀ (n : Nat) (args : List D), sem (n + 1) 19 args = fnRun 1 [false] (b__law_parts (sem n)) args
def b__law_numberA (C : CE) : SS :=
  sSeq (sIf (bVal (r2 ltD (op 1) (ov (rC (.int 0))))) (sPar 0 1 [r1 negD (op 0), r1 negD (op 1)]) (sNil)) (sSeq (sPar 2 3 [rN absD [op 0], rVar 1]) (sSeq (sWhile (bVal (r2 neD (op 3) (ov (rC (.int 0))))) (sPar 2 3 [rVar 3, r2 modD (op 2) (op 3)])) (sRet (rIf (bVal (r2 eqD (op 1) (op 2))) (r2 fdivD (op 0) (op 2)) (rTup [ov (r2 fdivD (op 0) (op 2)), ov (r2 fdivD (op 1) (op 2))])))))
class H__law_numberA (sem : Nat → CE) : Prop where
  h : ∀ (n : Nat) (args : List D), sem (n + 1) 20 args = fnRun 4 [false, false] (b__law_numberA (sem n)) args
def b__law_shared (C : CE) : SS :=
  sSeq (sWhile (bVal (r2 neD (op 1) (ov (rC (.int 0))))) (sPar 0 1 [rVar 1, r2 modD (op 0) (op 1)])) (sRet (rVar 0))
class H__law_shared (sem : Nat → CE) : Prop where
  h : ∀ (n : Nat) (args : List D), sem (n + 1) 21 args = fnRun 2 [false, false] (b__law_shared (sem n)) args
def b__law_often (C : CE) : SS :=
  sSeq (sSet (gSet 1) (rC (.int 1))) (sSeq (sFor [.z 0] itemsD (gSet 2) (sFor [.z 2] itemsD (gSet 3) (sSet (gSet 1) (r2 mulD (op 1) (ov (r2 fdivD (ov (r2 itemD (ov (rCall C 19 [.vw (ov (rVar 3))])) (ov (rC (.int 1))))) (ov (rCall C 21 [.vw (ov (rVar 1)), .vw (ov (r2 itemD (ov (rCall C 19 [.vw (ov (rVar 3))])) (ov (rC (.int 1)))))])))))))) (sRet (rMv 1)))
class H__law_often (sem : Nat → CE) : Prop where
  h : ∀ (n : Nat) (args : List D), sem (n + 1) 22 args = fnRun 4 [false] (b__law_often (sem n)) args
def b__law_grownA (C : CE) : SS :=
  sRet (rN tupleD' [ov (rLc [.z 0] itemsD [2] (gSet 2) (bYes) (r2 fdivD (ov (r2 mulD (ov (r2 itemD (ov (rCall C 19 [.vw (ov (rVar 2))])) (ov (rC (.int 0))))) (op 1))) (ov (r2 itemD (ov (rCall C 19 [.vw (ov (rVar 2))])) (ov (rC (.int 1)))))))])
class H__law_grownA (sem : Nat → CE) : Prop where
  h : ∀ (n : Nat) (args : List D), sem (n + 1) 23 args = fnRun 3 [false, false] (b__law_grownA (sem n)) args
def b__law_lessA (C : CE) : SS :=
  sRet (rTup [ov (rCall C 20 [.vw (ov (r2 itemD (oz 0) (ov (rC (.int 0))))), .vw (ov (rVar 1))]), ov (rCall C 20 [.vw (ov (r2 itemD (oz 0) (ov (rC (.int 1))))), .vw (ov (rVar 1))])])
class H__law_lessA (sem : Nat → CE) : Prop where
  h : ∀ (n : Nat) (args : List D), sem (n + 1) 24 args = fnRun 2 [false, false] (b__law_lessA (sem n)) args
def b__law_sameA (C : CE) : SS :=
  sSeq (sIf (bVal (r2 isD (op 1) (ov (rC .non)))) (sRet (r2 isD (op 0) (ov (rC .non)))) (sNil)) (sSeq (sIf (bTru (ov (rIsi2 isLstD isTupD (op 1)))) (sSeq (sIf (bOr (bVal (r2 neD (ov (rIsi isLstD (op 0))) (ov (rIsi isLstD (op 1))))) (bVal (r2 neD (ov (rIsi isTupD (op 0))) (ov (rIsi isTupD (op 1)))))) (sRet (rC (.bl false))) (sNil)) (sRet (rAnd (r2 eqD (ov (rN lenD [op 0])) (ov (rN lenD [op 1]))) (rN allD [ov (rLc [.z 0, .z 1] zipD [2, 3] (gTup' [gSet 2, gSet 3]) (bYes) (rCall C 25 [.vw (oz 2), .vw (oz 3)]))])))) (sNil)) (sSeq (sIf (bOr (bTru (ov (rIsi isBoolD (op 1)))) (bTru (ov (rIsi isStrD (op 1))))) (sRet (rAnd (r2 eqD (ov (rIsi isBoolD (op 0))) (ov (rIsi isBoolD (op 1)))) (r2 eqD (op 0) (op 1)))) (sNil)) (sRet (rAnd (rIsi isIntD (op 0)) (rAnd (rNot (ov (rIsi isBoolD (op 0)))) (r2 eqD (op 0) (op 1)))))))
class H__law_sameA (sem : Nat → CE) : Prop where
  h : ∀ (n : Nat) (args : List D), sem (n + 1) 25 args = fnRun 4 [false, false] (b__law_sameA (sem n)) args
def b__law_spotA (C : CE) : SS :=
  sRet (rCall C 24 [.vw (ov (rCall C 18 [.mu 0, .vw (op 1)])), .vw (ov (rVar 2))])
class H__law_spotA (sem : Nat → CE) : Prop where
  h : ∀ (n : Nat) (args : List D), sem (n + 1) 26 args = fnRun 3 [true, false, false] (b__law_spotA (sem n)) args
def b__law_spanA (C : CE) : SS :=
  sRet (rTup [ov (r2 itemD (ov (rLst [rC (.int 4), rC (.int 6), rC (.int 12), rC (.int 199)])) (ov (rCall C 17 [.mu 0, .vw (ov (rC (.int 4)))]))), ov (r2 itemD (ov (rLst [rC (.int 1), rC (.int 1), rC (.int 1), rC (.int 2), rC (.int 3), rC (.int 4), rC (.int 5), rC (.int 12)])) (ov (rCall C 17 [.mu 0, .vw (ov (rC (.int 8)))])))])
class H__law_spanA (sem : Nat → CE) : Prop where
  h : ∀ (n : Nat) (args : List D), sem (n + 1) 27 args = fnRun 1 [true] (b__law_spanA (sem n)) args
def b__law_across (C : CE) : SS :=
  sRet (r2 subD (ov (r2 mulD (ov (r2 subD (ov (r2 itemD (oz 1) (ov (rC (.int 0))))) (ov (r2 itemD (oz 0) (ov (rC (.int 0))))))) (ov (r2 subD (ov (r2 itemD (oz 2) (ov (rC (.int 1))))) (ov (r2 itemD (oz 0) (ov (rC (.int 1))))))))) (ov (r2 mulD (ov (r2 subD (ov (r2 itemD (oz 1) (ov (rC (.int 1))))) (ov (r2 itemD (oz 0) (ov (rC (.int 1))))))) (ov (r2 subD (ov (r2 itemD (oz 2) (ov (rC (.int 0))))) (ov (r2 itemD (oz 0) (ov (rC (.int 0))))))))))
class H__law_across (sem : Nat → CE) : Prop where
  h : ∀ (n : Nat) (args : List D), sem (n + 1) 28 args = fnRun 3 [false, false, false] (b__law_across (sem n)) args

variable {sem : Nat → CE} {s : Nat} {x y : D}
def wc (k : Int) (c : D) : P2 := (sc (xOf c) k, sc (yOf c) k)
structure Com (s u : Nat) (L : Int) (cs : List D) : Prop where
  pos : 0 < L
  bits : L.natAbs < 2 ^ u
  dvd : ∀ c ∈ cs, belD (xOf c) ∣ L ∧ belD (yOf c) ∣ L
theorem IsL.com {cs : List D} {L : Int} (h : IsL (flat cs) s L) (hc : ∀ c ∈ cs, Cor s c) : Com s (s * (2 * cs.length) + 1) L cs := by
  obtain ⟨h1, h2, h3, _⟩ := h
  refine ⟨h1, by rw [← flat_len hc]; exact h2, fun c hcc => ?_⟩
  obtain ⟨x, y, rfl, _⟩ := hc c hcc
  exact ⟨h3 x (List.mem_flatMap.mpr ⟨_, hcc, by simp [its]⟩), h3 y (List.mem_flatMap.mpr ⟨_, hcc, by simp [its]⟩)⟩
theorem fdiv_bits {L b : Int} {u : Nat} (h : L.natAbs < 2 ^ u) (h0 : 0 < L) (hb : 0 < b) : (L.fdiv b).natAbs < 2 ^ u ∧ 0 ≤ L.fdiv b := by
  rw [Int.fdiv_eq_ediv_of_nonneg _ (by omega)]
  have h1 : L / b ≤ L := Int.ediv_le_self _ (by omega)
  have h2 : 0 ≤ L / b := Int.ediv_nonneg (by omega) (by omega)
  omega
theorem sc_val {d : D} {L : Int} (hd : Num s d) (h : belD d ∣ L) : sc d L * belD d = topD d * L := by
  obtain ⟨m, rfl⟩ := h
  unfold sc
  have hb := bel_pos hd
  rw [Int.mul_fdiv_cancel_left _ (by omega)]
  grind
theorem F_wc [H_top_of sem] [H_below_of sem] [H_whole_by sem] [H_whole_corner sem] (n : Nat) {c : D} {L : Int} {u : Nat} (hc : Cor s c) (h0 : 0 < s) (hs : s ≤ 8000) (hL : 0 < L) (hb : L.natAbs < 2 ^ u) (hu : u ≤ 8000) :
    sem (n + 3) 8 [c, .int L] = .ok (C2 (wc L c), []) :=
  F_wcorner (sem := sem) n hc h0 hs (nb_le (fdiv_bits hb hL (bel_pos hc.xn)).1 hu) (nb_le (fdiv_bits hb hL (bel_pos hc.yn)).1 hu)
mutual
def D.pt : Nat → D → Bool
  | _, .non => true
  | _, .bl _ => true
  | _, .int _ => true
  | n + 1, .tup xs => decide (xs.length ≤ 10000) && pts n xs
  | _, _ => false
def pts : Nat → List D → Bool
  | _, [] => true
  | n, x :: xs => x.pt n && pts n xs
end
theorem zip_self (xs : List D) : List.zipWith pairD xs xs = xs.map fun x => pairD x x := by
  induction xs with
  | nil => rfl
  | cons x xs ih => simp [ih]
theorem all_t {α : Type} (l : List α) : (l.all fun _ => true) = true := by simp
theorem mapt (o : Bool) {α : Type} (l : List α) : allD [.lst o (l.map fun _ => .bl true)] = .ok (.bl true) := by
  have := v_allB (o := o) (f := fun _ => true) (l := l) (Q := fun d => d = .bl true)
  rw [all_t] at this
  obtain ⟨d, e, rfl⟩ := Eq.mpr this rfl
  exact e
theorem Num.pt {x : D} (h : Num s x) : x.pt 1 = true := by
  rcases h.cases with ⟨a, rfl, _⟩ | ⟨a, b, rfl, _⟩ <;> simp [D.pt, pts]
theorem Cor.pt {d : D} (h : Cor s d) : d.pt 2 = true := by
  obtain ⟨x, y, rfl, a, b⟩ := h
  have := a.pt; have := b.pt
  simp [D.pt, pts, *]
end Vd
end
section
namespace Vd
def Meets (a b c d : P2) : Prop := ∃ s t n : Int, 0 < n ∧ 0 ≤ s ∧ s ≤ n ∧ 0 ≤ t ∧ t ≤ n ∧ n * a.1 + s * (b.1 - a.1) = n * c.1 + t * (d.1 - c.1) ∧ n * a.2 + s * (b.2 - a.2) = n * c.2 + t * (d.2 - c.2)
variable {a b c d : P2}
theorem Meets.turn (h : Meets a b c d) : Meets a b d c := by
  obtain ⟨s, t, n, h0, h1, h2, h3, h4, h5, h6⟩ := h
  refine ⟨s, n - t, n, h0, h1, h2, by omega, by omega, ?_, ?_⟩
  · rw [h5]; grind
  · rw [h6]; grind
theorem lxle_trans {p q r : P2} (h : lxle p q) (k : lxle q r) : lxle p r := by unfold lxle at *; omega
end Vd
end
section
namespace Vd
open PySem L2
local macro_rules | `(tactic| and_intros) => `(tactic| simp only [kd_pp, kd_rp, kd_tp, kd_pt, kd_rt, kd_tt, kd_pr, kd_rr, kd_tr, frzs_tups, isFzs_tups, neB, beq_tt, beq_ff, beq_tf, beq_ft, c2_fz, c2_frz, c2_fz1, c2_frz1, c2_0, c2_1, c2_tup, c2_eq, c2_ne, c2_lt, c2_le, c2_min, c2_max, c2_inT, c2_inL, c2s_frz, c2s_fz, lp0, lp1, lc0, lc1, wR_ok, wR_bind, w_C, w_Var, g_Var1, g_Var2, w_Mv, g_Mv1, g_Mv2, w_End, w_ov, w_op, g_Op1, g_Op2, w_oz, g_Oz1, g_Oz2, w_1, w_2, w_Not, w_Isi, w_Isi2, w_Ops0, w_Ops1, w_Tup, w_N, w_Sl, w_noPart, w_aPart, k_Part, w_Chain, isB_bl, cIf_t, cIf_f, cIf_n, w_ChainE, w_If, w_And, w_Or, w_Tru, w_Val, w_BAnd, w_BOr, w_BNot, w_BYes, w_Nil, w_Br, w_Ct, g_nx, g_br, g_ct, g_rt, w_Seq, w_SIf, w_Ret, w_Drop, w_Set, g_Set, g_Tup1, g_Tup2, g_All0, g_All1, isI_int, g_Item, q_Item, w_Q0, w_Q1, w_Lst, w_Par, w_Mut, g_Mu1, g_Mu2, v_append, k_Ext, w_Ext, g_Ex1, g_Ex2, w_Call, w_Args0, w_Args1, w_Args2, g_Ar, k_Call, w_As0, w_As1, w_As2, g_As, putm0, putm1, putm2, w_O0, w_O1, w_O2, q_rt, q_nx, w_fn, slots0, slots1, slots2, aft_nx, aft_ct, aft_br, aft_rt, w_sO0, w_sO1, w_sv, w_sp, g_Sp1, g_Sp2, w_sz, g_Sz1, g_Sz2, w_For, k_For, w_Lc, w_eO0, w_eO1, w_ev, w_ep, w_ez, k_Lc, v_add, v_addL, v_addT, v_sub, v_mul, v_fdiv, v_mod, v_pow, v_neg, v_lt, v_le, v_gt, v_ge, shp_int, shp_bl, shp_non, v_eq, v_ne, v_eqB, g_Ix, v_ixL, v_ixT, g_X, v_idx, v_lenL, v_lenT, v_abs, v_max, v_min, v_tup, v_list, v_listT, v_tuple, v_tupleT, v_slL, v_slT, v_truB, v_truI, v_truT, v_truL, v_truN, v_itL, v_itT, v_r1, v_r2, v_isB, v_isN, v_isntN, List.getElem?_cons_zero, List.getElem?_cons_succ, List.set_cons_zero, List.set_cons_succ, List.length_cons, List.length_nil, List.cons_append, List.nil_append, List.append_nil, List.replicate_succ, List.replicate_zero, D.frz, frzs, D.isFz, isFzs, dwipe, restore, relk, Bool.and_true, Bool.true_and, Bool.and_false, Bool.false_and, Bool.or_true, Bool.true_or, Bool.or_false, Bool.false_or, Bool.not_true, Bool.not_false, and_true, true_and, at_of, ix_of, frzs_ints, isFzs_ints, List.length_map, Int.toNat_natCast, ↓reduceIte, Nat.reduceAdd, Nat.reduceSub, Nat.reduceLT, Nat.reduceLeDiff, Int.reduceLT, Int.reduceLE, Int.reduceEq, Int.reduceAdd, Int.reduceSub, Int.reduceMul, Int.reduceNeg, Int.reduceToNat, Int.reducePow, Int.reduceBNe, Int.reduceBEq, reduceCtorEq, mulOk_l, mulOk_r, fdivOk_s, modOk_p, powOk_s, cast_of, small_le, small_lt, filt_yes, frzs_bls, v_anyB, v_allB, cutL_map, c_isIntDN, c_isIntDB, c_isIntDI, c_isIntDS, c_isIntDT, c_isIntDL, c_isBoolDN, c_isBoolDB, c_isBoolDI, c_isBoolDS, c_isBoolDT, c_isBoolDL, c_isStrDN, c_isStrDB, c_isStrDI, c_isStrDS, c_isStrDT, c_isStrDL, c_isTupDN, c_isTupDB, c_isTupDI, c_isTupDS, c_isTupDT, c_isTupDL, c_isLstDN, c_isLstDB, c_isLstDI, c_isLstDS, c_isLstDT, c_isLstDL, c_D_isNonN, c_D_isNonB, c_D_isNonI, c_D_isNonS, c_D_isNonT, c_D_isNonL, c_frz1N, c_isFz1N, c_frz1B, c_isFz1B, c_frz1I, c_isFz1I, c_frz1S, c_isFz1S, c_frz1T, c_isFz1T, c_frz1L, c_isFz1L, v_zip, v_zipT, v_enum, v_minI, v_maxI, v_minT, v_maxT, w_CallO, w_AugI, g_Aug, intAt1, intAt2, v_int, v_intB, v_extT, v_extL, okArgs0, okArgs1, okArgs2, w_Idx, k_Idx, v_reverse, v_insert, decide_true, decide_false, Bool.and_self])
local macro_rules | `(tactic| nofun) => `(tactic| simp only [kd_pp, kd_rp, kd_tp, kd_pt, kd_rt, kd_tt, kd_pr, kd_rr, kd_tr, frzs_tups, isFzs_tups, neB, beq_tt, beq_ff, beq_tf, beq_ft, c2_fz, c2_frz, c2_fz1, c2_frz1, c2_0, c2_1, c2_tup, c2_eq, c2_ne, c2_lt, c2_le, c2_min, c2_max, c2_inT, c2_inL, c2s_frz, c2s_fz, lp0, lp1, lc0, lc1, wR_ok, wR_bind, w_C, w_Var, g_Var1, g_Var2, w_Mv, g_Mv1, g_Mv2, w_End, w_ov, w_op, g_Op1, g_Op2, w_oz, g_Oz1, g_Oz2, w_1, w_2, w_Not, w_Isi, w_Isi2, w_Ops0, w_Ops1, w_Tup, w_N, w_Sl, w_noPart, w_aPart, k_Part, w_Chain, isB_bl, cIf_t, cIf_f, cIf_n, w_ChainE, w_If, w_And, w_Or, w_Tru, w_Val, w_BAnd, w_BOr, w_BNot, w_BYes, w_Nil, w_Br, w_Ct, g_nx, g_br, g_ct, g_rt, w_Seq, w_SIf, w_Ret, w_Drop, w_Set, g_Set, g_Tup1, g_Tup2, g_All0, g_All1, isI_int, g_Item, q_Item, w_Q0, w_Q1, w_Lst, w_Par, w_Mut, g_Mu1, g_Mu2, v_append, k_Ext, w_Ext, g_Ex1, g_Ex2, w_Call, w_Args0, w_Args1, w_Args2, g_Ar, k_Call, w_As0, w_As1, w_As2, g_As, putm0, putm1, putm2, w_O0, w_O1, w_O2, q_rt, q_nx, w_fn, slots0, slots1, slots2, aft_nx, aft_ct, aft_br, aft_rt, w_sO0, w_sO1, w_sv, w_sp, g_Sp1, g_Sp2, w_sz, g_Sz1, g_Sz2, w_For, k_For, w_Lc, w_eO0, w_eO1, w_ev, w_ep, w_ez, k_Lc, v_add, v_addL, v_addT, v_sub, v_mul, v_fdiv, v_mod, v_pow, v_neg, v_lt, v_le, v_gt, v_ge, shp_int, shp_bl, shp_non, v_eq, v_ne, v_eqB, g_Ix, v_ixL, v_ixT, g_X, v_idx, v_lenL, v_lenT, v_abs, v_max, v_min, v_tup, v_list, v_listT, v_tuple, v_tupleT, v_slL, v_slT, v_truB, v_truI, v_truT, v_truL, v_truN, v_itL, v_itT, v_r1, v_r2, v_isB, v_isN, v_isntN, List.getElem?_cons_zero, List.getElem?_cons_succ, List.set_cons_zero, List.set_cons_succ, List.length_cons, List.length_nil, List.cons_append, List.nil_append, List.append_nil, List.replicate_succ, List.replicate_zero, D.frz, frzs, D.isFz, isFzs, dwipe, restore, relk, Bool.and_true, Bool.true_and, Bool.and_false, Bool.false_and, Bool.or_true, Bool.true_or, Bool.or_false, Bool.false_or, Bool.not_true, Bool.not_false, and_true, true_and, at_of, ix_of, frzs_ints, isFzs_ints, List.length_map, Int.toNat_natCast, ↓reduceIte, Nat.reduceAdd, Nat.reduceSub, Nat.reduceLT, Nat.reduceLeDiff, Int.reduceLT, Int.reduceLE, Int.reduceEq, Int.reduceAdd, Int.reduceSub, Int.reduceMul, Int.reduceNeg, Int.reduceToNat, Int.reducePow, Int.reduceBNe, Int.reduceBEq, reduceCtorEq, mulOk_l, mulOk_r, fdivOk_s, modOk_p, powOk_s, cast_of, small_le, small_lt, filt_yes, frzs_bls, v_anyB, v_allB, cutL_map, c_isIntDN, c_isIntDB, c_isIntDI, c_isIntDS, c_isIntDT, c_isIntDL, c_isBoolDN, c_isBoolDB, c_isBoolDI, c_isBoolDS, c_isBoolDT, c_isBoolDL, c_isStrDN, c_isStrDB, c_isStrDI, c_isStrDS, c_isStrDT, c_isStrDL, c_isTupDN, c_isTupDB, c_isTupDI, c_isTupDS, c_isTupDT, c_isTupDL, c_isLstDN, c_isLstDB, c_isLstDI, c_isLstDS, c_isLstDT, c_isLstDL, c_D_isNonN, c_D_isNonB, c_D_isNonI, c_D_isNonS, c_D_isNonT, c_D_isNonL, c_frz1N, c_isFz1N, c_frz1B, c_isFz1B, c_frz1I, c_isFz1I, c_frz1S, c_isFz1S, c_frz1T, c_isFz1T, c_frz1L, c_isFz1L, v_zip, v_zipT, v_enum, v_minI, v_maxI, v_minT, v_maxT, w_CallO, w_AugI, g_Aug, intAt1, intAt2, v_int, v_intB, v_extT, v_extL, okArgs0, okArgs1, okArgs2, w_Idx, k_Idx, v_reverse, v_insert, decide_true, decide_false, Bool.and_self, *])
def b_sides_in (C : CE) : SS :=
  sSeq (sSet (gSet 1) (rLst [])) (sSeq (sIf (bVal (r2 eqD (ov (r2 itemD (oz 0) (ov (rC (.int 0))))) (ov (rC (.str ("points" : PySem.Str)))))) (sRet (rMv 1)) (sNil)) (sSeq (sFor [.v (rCall C 51 [.vw (oz 0)])] itemsD (gSet 2) (sSeq (sDrop (rExt 1 (ov (rLc [.z 2, .v (rSl (oz 2) (aPart (ov (rC (.int 1)))) noPart)] zipD [3, 4] (gTup' [gSet 3, gSet 4]) (bYes) (rTup [ov (rVar 3), ov (rVar 4)]))))) (sIf (bVal (r2 eqD (ov (r2 itemD (oz 0) (ov (rC (.int 0))))) (ov (rC (.str ("patch" : PySem.Str)))))) (sDrop (rMut 1 appendF [rTup [ov (r2 itemD (oz 2) (ov (r1 negD (ov (rC (.int 1)))))), ov (r2 itemD (oz 2) (ov (rC (.int 0))))]])) (sNil)))) (sRet (rMv 1))))
class H_sides_in (sem : Nat → CE) : Prop where
  h : ∀ (n : Nat) (args : List D), sem (n + 1) 70 args = fnRun 5 [false] (b_sides_in (sem n)) args
def b_common (C : CE) : SS :=
  sSeq (sSet (gSet 1) (rLst [])) (sSeq (sFor [.z 0] itemsD (gSet 2) (sDrop (rExt 1 (ov (rCall C 52 [.vw (oz 2)]))))) (sSeq (sSet (gSet 3) (rCall C 9 [.vw (oz 1)])) (sRet (rTup [ov (rVar 3), ov (rLc [.z 0] itemsD [2] (gSet 2) (bYes) (rCall C 80 [.vw (oz 2), .vw (op 3)]))]))))
class H_common (sem : Nat → CE) : Prop where
  h : ∀ (n : Nat) (args : List D), sem (n + 1) 81 args = fnRun 4 [false] (b_common (sem n)) args
def b_whole_shape (C : CE) : SS :=
  sSeq (sIf (bVal (r2 eqD (ov (r2 itemD (oz 0) (ov (rC (.int 0))))) (ov (rC (.str ("points" : PySem.Str)))))) (sRet (rTup [ov (rC (.str ("points" : PySem.Str))), ov (rN tupleD' [ov (rLc [.v (r2 itemD (oz 0) (ov (rC (.int 1))))] itemsD [2] (gSet 2) (bYes) (rCall C 8 [.vw (oz 2), .vw (op 1)]))])])) (sNil)) (sSeq (sSet (gSet 3) (rLc [.v (r2 itemD (oz 0) (ov (rC (.int 1))))] itemsD [4] (gSet 4) (bYes) (rN tupleD' [ov (rLc [.z 4] itemsD [2] (gSet 2) (bYes) (rCall C 8 [.vw (oz 2), .vw (op 1)]))]))) (sRet (rTup [ov (r2 itemD (oz 0) (ov (rC (.int 0)))), ov (rN tupleD' [oz 3])])))
class H_whole_shape (sem : Nat → CE) : Prop where
  h : ∀ (n : Nat) (args : List D), sem (n + 1) 80 args = fnRun 5 [false, false] (b_whole_shape (sem n)) args

variable {sem : Nat → CE} {s : Nat} {x y : D}
def lineD (k : Nat) (l : List D) : List D := List.zipWith pairD l l.tail ++ (if 2 ≤ k then [pairD (l.getLast?.getD .non) (l.head?.getD .non)] else [])
def sidesD (S : Shp) : List D := if S.k = 0 then [] else S.ls.flatMap (lineD S.k)
theorem lineD_len {k : Nat} {l : List D} : (lineD k l).length ≤ l.length + 1 := by
  unfold lineD
  rw [List.length_append, List.length_zipWith, List.length_tail]
  split <;> simp <;> omega
theorem zipWith_fz {xs ys : List D} : isFzs (List.zipWith pairD xs ys) = true := by
  rw [isFzs_eq, List.all_eq_true]
  intro z hz
  obtain ⟨i, hi⟩ := List.getElem?_of_mem hz
  rw [List.getElem?_zipWith] at hi
  split at hi
  · cases hi; rfl
  · cases hi
theorem zip_mem {xs ys : List D} {z : D} (h : z ∈ List.zipWith pairD xs ys) : ∃ x y, z = pairD x y ∧ x ∈ xs ∧ y ∈ ys := by
  obtain ⟨i, hi⟩ := List.getElem?_of_mem h
  rw [List.getElem?_zipWith] at hi
  split at hi
  · rename_i a b ha hb
    cases hi
    exact ⟨a, b, rfl, List.mem_of_getElem? ha, List.mem_of_getElem? hb⟩
  · cases hi
theorem flatMap_take {α β : Type} {f : α → List β} {ls : List α} {i : Nat} {l : α} (h : ls[i]? = some l) : (ls.take (i + 1)).flatMap f = (ls.take i).flatMap f ++ f l := by
  rw [List.take_add_one, h, List.flatMap_append]; simp
theorem flatMap_len {k : Nat} {ls : List (List D)} {m : Nat} (h : ∀ l ∈ ls, l.length ≤ m) : (ls.flatMap (lineD k)).length ≤ (m + 1) * ls.length := by
  induction ls with
  | nil => simp
  | cons l ls ih =>
    have h1 := ih fun x hx => h x (List.mem_cons_of_mem _ hx)
    have h2 := h l List.mem_cons_self
    have h3 := lineD_len (k := k) (l := l)
    rw [List.flatMap_cons, List.length_append, List.length_cons, Nat.mul_succ]
    omega
theorem F_sides [H_lines_in sem] [H_sides_in sem] (n : Nat) {S : Shp} (h : S.Ok s) (hk : S.k ≤ 2) : sem (n + 2) 70 [S.d] = .ok (.lst true (sidesD S), []) := by
  apply wR_get
  rw [H_sides_in.h (sem := sem)]
  unfold b_sides_in
  have a1 := F_lines (sem := sem) n h.one
  have f1 := S.d_fz; have f2 := S.d_frz; have f3 := S.d_fz1; have f4 := S.d_frz1
  have hA := h.cor; have hL := h.lfew; have hN := h.lne; have hF := h.few
  rcases S with ⟨k, ls⟩
  dsimp only at hA hL hN hF hk
  have fin : ∀ (kd : PySem.Str) (b : Bool) (Q : D × List D → Prop), eqD (.str kd) (.str ("points" : PySem.Str)) = .ok (.bl false) → eqD (.str kd) (.str ("patch" : PySem.Str)) = .ok (.bl b) → (b = true ↔ 2 ≤ k) → sem (n + 1) 51 [.tup [.str kd, .tup (ls.map .tup)]] = .ok (.lst true (ls.map .tup), []) → Q (.lst true (ls.flatMap (lineD k)), []) →
      wR (fnRun 5 [false] (b_sides_in (sem (n + 1))) [.tup [.str kd, .tup (ls.map .tup)]]) Q := by
    intro kd b Q hkd hkp hb hcl hQ
    unfold b_sides_in
    nofun
    refine w_loop (fun i ds => ∃ s2 s3 s4, ds = [.lk (.tup [.str kd, .tup (ls.map .tup)]), .own (.lst true ((ls.take i).flatMap (lineD k))), s2, s3, s4]) (j := 0) ⟨_, _, _, rfl⟩ (fun i x ds hx2 hI => ?_) (fun ds hI => ?_)
    · obtain ⟨s2, s3, s4, rfl⟩ := hI
      rw [Nat.zero_add] at *
      rw [List.getElem?_map] at hx2
      obtain ⟨l, hl, rfl⟩ := Option.map_eq_some_iff.mp hx2
      have hm := List.mem_of_getElem? hl
      have hfz := cors_fz (hA l hm)
      have hfr := frzs_of hfz
      have ct := cutL_tail (xs := l)
      have htz : isFzs l.tail = true := cors_fz fun c hc => hA l hm c (List.mem_of_mem_tail hc)
      have htr := frzs_of htz
      have e := flatMap_take (f := lineD k) hl
      have l1 := flatMap_len (k := k) (ls := ls.take i) (m := 100) fun x hx => hL x (List.mem_of_mem_take hx)
      have l2 : (ls.take i).length ≤ 100 := by rw [List.length_take]; omega
      have l3 := hL l hm
      have zf := zipWith_fz (xs := l) (ys := l.tail)
      have zr := frzs_of zf
      have zl : (List.zipWith pairD l l.tail).length ≤ 100 := by rw [List.length_zipWith]; omega
      clear hx2
      nofun
      refine w_map id (fun _ => true) _ rfl (fun x hx => ?_) fun ds ed => ?_
      · obtain ⟨u, v, rfl, hu, hv⟩ := zip_mem hx
        have h1 := hA l hm u hu
        have h2 := hA l hm v (List.mem_of_mem_tail hv)
        have u1 := h1.fz; have u2 := frz_of u1; have v1 := h2.fz; have v2 := frz_of v1
        unfold pairD
        nofun
        rfl
      · simp only [dwipe] at ed
        rw [List.map_id]
        have zl2 : (List.zipWith pairD l l.tail).length ≤ sizeLine := by unfold sizeLine; omega
        have zl3 : ((ls.take i).flatMap (lineD k)).length + (List.zipWith pairD l l.tail).length ≤ sizeLine := by unfold sizeLine; omega
        have zl4 : ((ls.take i).flatMap (lineD k)).length + (List.zipWith pairD l l.tail).length < sizeLine := by unfold sizeLine; omega
        cases b with
        | false =>
          have hk2 : ¬ 2 ≤ k := fun z => Bool.noConfusion (hb.mpr z)
          have e5 : lineD k l = List.zipWith pairD l l.tail := by unfold lineD; rw [if_neg hk2, List.append_nil]
          rw [e5] at e
          nofun
          exact ⟨_, _, _, rfl⟩
        | true =>
          have hk2 : 2 ≤ k := hb.mp rfl
          have hln := hN l hm
          obtain ⟨z, ez, hz, ez2⟩ := at_last (xs := l) (List.length_pos_iff.mpr hln)
          obtain ⟨a, ea⟩ : ∃ a, l[0]? = some a := ⟨l[0]'(List.length_pos_iff.mpr hln), by simp [List.length_pos_iff.mpr hln]⟩
          have e5 : lineD k l = List.zipWith pairD l l.tail ++ [.tup [z, a]] := by
            unfold lineD
            rw [if_pos hk2, List.getLast?_eq_getElem?, ez2, List.head?_eq_getElem?, ea]
            rfl
          rw [e5] at e
          have z1 := (hA l hm z hz).fz; have z2 := frz_of z1
          have a1 := (hA l hm a (List.mem_of_getElem? ea)).fz; have a2 := frz_of a1
          have e6 : (List.take (i + 1) ls).flatMap (lineD k) = (ls.take i).flatMap (lineD k) ++ List.zipWith pairD l l.tail ++ [.tup [z, a]] := by rw [e, List.append_assoc]
          clear e e5
          nofun
          exact ⟨by rw [List.length_append]; unfold sizeLine; omega, _, _, _, rfl⟩
    · obtain ⟨s2, s3, s4, rfl⟩ := hI
      rw [Nat.zero_add, List.length_map, List.take_length]
      nofun
  match k, hk with
  | 0, _ =>
    obtain ⟨l, rfl⟩ := List.length_eq_one_iff.mp (h.one rfl)
    unfold Shp.d
    nofun
    rfl
  | 1, _ => exact fin ("rows" : PySem.Str) false _ kd_rp kd_rt (by simp) a1 rfl
  | 2, _ => exact fin ("patch" : PySem.Str) true _ kd_tp kd_tt (by simp) a1 rfl
theorem F_ccL [H_greatest_in_both sem] [H_below_of sem] [H_common_below sem] [H_common_of_corners sem] (n : Nat) {o : Bool} {cs : List D} {s : Nat} (hc : ∀ c ∈ cs, Cor s c) (h0 : 0 < s) (hs : s * (2 * cs.length) + 1 + s ≤ 8000) (hl : cs.length ≤ 1000) : ∃ L, sem (n + 3) 9 [.lst o cs] = .ok (.int L, []) ∧ IsL (flat cs) s L := by
  have : wR (sem (n + 3) 9 [.lst o cs]) fun q => ∃ L, q = (.int L, []) ∧ IsL (flat cs) s L := by
    rw [H_common_of_corners.h (sem := sem)]
    unfold b_common_of_corners
    have hfz : isFzs cs = true := cors_fz hc
    nofun
    refine w_loop (fun i ds => ∃ s2, ds = [.lk (.lst o cs), .own (.lst true (flat (cs.take i))), s2]) (j := 0) ⟨_, rfl⟩ (fun i x ds hx2 hI => ?_) (fun ds hI => ?_)
    · obtain ⟨s2, rfl⟩ := hI
      rw [Nat.zero_add] at *
      have hm := List.mem_of_getElem? hx2
      have e1 : flat (cs.take (i + 1)) = flat (cs.take i) ++ its x := by
        unfold flat
        rw [List.take_add_one, hx2, List.flatMap_append]
        simp
      have l1 := flat_len (cs := cs.take i) fun c hcc => hc c (List.mem_of_mem_take hcc)
      have l2 : (cs.take i).length ≤ cs.length := by rw [List.length_take]; omega
      obtain ⟨a, b, rfl, ha, hb⟩ := hc x hm
      nofun
      exact ⟨by unfold sizeLine; omega, .own (.tup [a, b]), rfl⟩
    · obtain ⟨s2, rfl⟩ := hI
      rw [Nat.zero_add, List.take_length] at *
      have l1 := flat_len hc
      have hz : isFzs (flat cs) = true := by
        rw [isFzs_eq, List.all_eq_true]
        exact fun z hz => (flat_num hc z hz).fz
      have hzf := frzs_of hz
      obtain ⟨L, e, hL⟩ := F_common (sem := sem) n (o := true) (flat_num hc) h0 (by rw [l1]; omega)
      nofun
      exact ⟨L, rfl, hL⟩
  obtain ⟨_, e, L, rfl, hh⟩ := this
  exact ⟨L, e, hh⟩
structure Wh where
  k : Nat
  ls : List (List P2)
def Wh.sh (W : Wh) : Shp := ⟨W.k, W.ls.map (List.map C2)⟩
abbrev Wh.d (W : Wh) : D := W.sh.d
structure Wh.Ok (s : Nat) (W : Wh) : Prop where
  kind : W.k ≤ 2
  one : W.k = 0 → W.ls.length = 1
  ne : W.ls ≠ []
  few : W.ls.length ≤ 100
  lne : ∀ l ∈ W.ls, l ≠ []
  lfew : ∀ l ∈ W.ls, l.length ≤ 100
  cor : ∀ l ∈ W.ls, ∀ c ∈ l, Sm s c
theorem C2_cor {p : P2} (h : Sm s p) : Cor s (C2 p) := ⟨_, _, rfl, h.1, h.2⟩
theorem Wh.Ok.sh {W : Wh} (h : W.Ok s) : W.sh.Ok s := by
  refine ⟨fun e => by simpa [Wh.sh] using h.one e, by simpa [Wh.sh] using h.ne, by simpa [Wh.sh] using h.few, fun l hl => ?_, fun l hl => ?_, fun l hl c hc => ?_⟩
  · obtain ⟨l, hl2, rfl⟩ := List.mem_map.mp hl
    simpa using h.lne l hl2
  · obtain ⟨l, hl2, rfl⟩ := List.mem_map.mp hl
    simpa using h.lfew l hl2
  · obtain ⟨l, hl2, rfl⟩ := List.mem_map.mp hl
    obtain ⟨p, hp, rfl⟩ := List.mem_map.mp hc
    exact C2_cor (h.cor l hl2 p hp)
theorem Wh.Ok.all {W : Wh} (h : W.Ok s) : ∀ c ∈ W.ls.flatten, Sm s c := fun c hc => by
  obtain ⟨l, hl, hc⟩ := List.mem_flatten.mp hc
  exact h.cor l hl c hc
theorem Wh.flat (W : Wh) : W.sh.ls.flatten = W.ls.flatten.map C2 := by
  unfold Wh.sh
  dsimp only
  exact map_flatten' W.ls
where map_flatten' : ∀ ls : List (List P2), (ls.map (List.map C2)).flatten = ls.flatten.map C2
  | [] => rfl
  | l :: ls => by rw [List.map_cons, List.flatten_cons, List.flatten_cons, List.map_append, map_flatten' ls]
end Vd
end
section
namespace Vd
open PySem L2
def gCB (x y : Option Slot) (C : CE) (f : Nat) (ds : Ds) (Q : D → Ds → Prop) (_ : Bx Q := Bx.mk) : Prop := match seen x, seen y with
  | some a, some b => wR (C f [a.frz, b.frz]) fun q => (atomD q.1 && q.2.isEmpty) = true ∧ Q q.1 ds
  | _, _ => False
theorem w_CallB {C : CE} {f i j : Nat} {ds : Ds} {Q : D → Ds → Prop} : wE (rCallB C f i j) ds Q = gCB ds[i]? ds[j]? C f ds Q := by
  rw [wE_eq]; unfold rCallB gCB
  cases seen ds[i]? with
  | none => exact wR_bad
  | some a =>
    cases seen ds[j]? with
    | none => exact wR_bad
    | some b =>
      dsimp only
      rw [wR_bind]
      exact wR_ext fun q => by rw [wR_ite, wR_ok]
theorem g_CBoo {a b : D} {C : CE} {f : Nat} {ds : Ds} {Q : D → Ds → Prop} : gCB (some (.own a)) (some (.own b)) C f ds Q = wR (C f [a.frz, b.frz]) fun q => (atomD q.1 && q.2.isEmpty) = true ∧ Q q.1 ds := rfl
theorem g_CBol {a b : D} {C : CE} {f : Nat} {ds : Ds} {Q : D → Ds → Prop} : gCB (some (.own a)) (some (.lk b)) C f ds Q = wR (C f [a.frz, b.frz]) fun q => (atomD q.1 && q.2.isEmpty) = true ∧ Q q.1 ds := rfl
theorem g_CBlo {a b : D} {C : CE} {f : Nat} {ds : Ds} {Q : D → Ds → Prop} : gCB (some (.lk a)) (some (.own b)) C f ds Q = wR (C f [a.frz, b.frz]) fun q => (atomD q.1 && q.2.isEmpty) = true ∧ Q q.1 ds := rfl
theorem atom_bl {b : Bool} : atomD (.bl b) = true := rfl
theorem emp_nil : ([] : List D).isEmpty = true := rfl
def gFM (x : Option Slot) (i : Nat) (g : GS) (b : SS) (ds : Ds) (Q : Fl → Ds → Prop) (_ : Bx g := Bx.mk) (_ : Bx b := Bx.mk) (_ : Bx Q := Bx.mk) : Prop := match x with
  | some (.own (.lst true ys)) => wS (loopF g b ys) (ds.set i .no) Q
  | _ => False
theorem w_ForMv {i : Nat} {g : GS} {b : SS} {ds : Ds} {Q : Fl → Ds → Prop} : wS (sForMv i g b) ds Q = gFM ds[i]? i g b ds Q := by
  rw [wS_eq]; unfold sForMv gFM; generalize ds[i]? = x; rcases x with _ | _ | d' | _
  · exact wR_bad
  · exact wR_bad
  · cases d' with
    | lst o xs =>
      cases o
      · exact wR_bad
      · exact wS_eq.symm
    | _ => exact wR_bad
  · exact wR_bad
theorem g_FM {ys : List D} {i : Nat} {g : GS} {b : SS} {ds : Ds} {Q : Fl → Ds → Prop} : gFM (some (.own (.lst true ys))) i g b ds Q = wS (loopF g b ys) (ds.set i .no) Q := rfl
theorem w_SortK {v : Nat} {elt : ES} {o : Opd} {ds : Ds} {Q : D → Ds → Prop} : wE (rSortK v elt o) ds Q = wE (o fun x => sortF v elt x) ds Q := rfl
theorem w_sortF {v : Nat} {elt : ES} {o : Bool} {xs ks : List D} {ds : Ds} {Q : D → Ds → Prop} (hk : keysF v elt ds xs = .ok ks) (hs : srtB (pys ks) = true) (hz : isFzs xs = true) (hl : xs.length ≤ sizeLine) (k : Q (.lst true (sortBy xs (pys ks))) ds) : wE (sortF v elt (.lst o xs)) ds Q := by
  rw [wE_eq]
  show wR (if _ then _ else _) _
  rw [if_pos (by rw [hz, decide_eq_true hl]; rfl), hk]
  show wR (if _ then _ else _) _
  rw [if_pos hs, wR_ok]
  exact k
theorem keysF_map {v : Nat} {elt : ES} {ds : Ds} (h : D → D) : ∀ {xs : List D}, (∀ x ∈ xs, ∃ ds', elt (lamDs ds v x) = .ok (h x, ds')) → (∀ x ∈ xs, (h x).frz = h x) → keysF v elt ds xs = .ok (xs.map h)
  | [], _, _ => rfl
  | x :: xs, a, b => by
    obtain ⟨ds', e⟩ := a x List.mem_cons_self
    unfold keysF
    rw [e]
    show Res.bind (keysF v elt ds xs) _ = _
    rw [keysF_map h (fun y hy => a y (List.mem_cons_of_mem _ hy)) fun y hy => b y (List.mem_cons_of_mem _ hy)]
    show Res.ok ((h x).frz :: xs.map h) = _
    rw [b x List.mem_cons_self]; rfl
end Vd
end
section
namespace Vd
open PySem L2
theorem lxlt_irr (a : P2) : ¬ lxlt a a := by unfold lxlt; omega
theorem lxlt_trans {a b c : P2} (h : lxlt a b) (k : lxlt b c) : lxlt a c := by unfold lxlt at *; omega
theorem lxle_total (a b : P2) : lxle a b ∨ lxle b a := by unfold lxle; omega
theorem lxle_anti {a b : P2} (h : lxle a b) (k : lxle b a) : a = b := by unfold lxle at *; exact Prod.ext (by omega) (by omega)
theorem lxlt_of {a b : P2} (h : lxle a b) (k : a ≠ b) : lxlt a b := by
  unfold lxle at h; unfold lxlt
  rcases h with h | ⟨h, g⟩
  · exact .inl h
  · refine .inr ⟨h, ?_⟩
    have : a.2 ≠ b.2 := fun e => k (Prod.ext h e)
    omega
theorem not_lxlt {a b : P2} (h : ¬ lxlt a b) : lxle b a := by unfold lxlt at h; unfold lxle; omega
def Asc (f : D → P2) (xs : List D) : Prop := xs.Pairwise fun a b => lxlt (f a) (f b)
theorem Asc.nodup {f : D → P2} {xs : List D} (h : Asc f xs) : xs.Nodup := List.Pairwise.imp (fun {a b} q e => by subst e; exact lxlt_irr _ q) h
theorem asc_ext {f : D → P2} {xs ys : List D} (h : Asc f xs) (k : Asc f ys) (e : ∀ c, c ∈ xs ↔ c ∈ ys) : xs = ys := by
  have p : xs.Perm ys := (List.perm_ext_iff_of_nodup h.nodup k.nodup).mpr e
  exact p.eq_of_pairwise (fun a b _ _ q r => absurd (lxlt_trans q r) (lxlt_irr _)) h k
theorem asc_snoc {f : D → P2} {xs : List D} {c : D} (h : Asc f xs) (k : ∀ b ∈ xs, lxlt (f b) (f c)) : Asc f (xs ++ [c]) := by
  unfold Asc
  rw [List.pairwise_append]
  exact ⟨h, List.pairwise_singleton _ _, fun a ha b hb => by rw [List.mem_singleton.mp hb]; exact k a ha⟩
theorem asc_filter {f : D → P2} {p : P2} : ∀ {xs : List D}, Asc f xs → xs.filter (fun b => decide (lxlt (f b) p)) = xs.take (xs.filter fun b => decide (lxlt (f b) p)).length
  | [], _ => rfl
  | a :: l, h => by
    have h2 := List.pairwise_cons.mp h
    rw [List.filter_cons]
    by_cases q : lxlt (f a) p
    · rw [if_pos (decide_eq_true q), List.length_cons, List.take_succ_cons]
      exact congrArg _ (asc_filter h2.2)
    · rw [if_neg (by simpa using q)]
      have : l.filter (fun b => decide (lxlt (f b) p)) = [] := List.filter_eq_nil_iff.mpr fun b hb z => q (lxlt_trans (h2.1 b hb) (of_decide_eq_true z))
      rw [this]; rfl
theorem asc_put {f : D → P2} {c : D} {xs : List D} (h : Asc f xs) (nc : ∀ b ∈ xs, f b ≠ f c) {n : Nat} (hn : n = (xs.filter fun b => decide (lxlt (f b) (f c))).length) :
    Asc f (xs.take n ++ [c] ++ xs.drop n) := by
  have e1 := asc_filter (p := f c) h
  rw [← hn] at e1
  have a1 : ∀ b ∈ xs.take n, lxlt (f b) (f c) := fun b hb => by rw [← e1] at hb; exact of_decide_eq_true (List.mem_filter.mp hb).2
  have h3 : (xs.take n ++ xs.drop n).Pairwise fun a b => lxlt (f a) (f b) := by rw [List.take_append_drop]; exact h
  obtain ⟨h4, h5, h6⟩ := List.pairwise_append.mp h3
  have a2 : ∀ b ∈ xs.drop n, lxlt (f c) (f b) := fun b hb => by
    have hx : b ∈ xs := List.mem_of_mem_drop hb
    by_cases q : lxlt (f b) (f c)
    · have hb2 : b ∈ xs.take n := by rw [← e1]; exact List.mem_filter.mpr ⟨hx, decide_eq_true q⟩
      exact absurd (h6 b hb2 b hb) (lxlt_irr _)
    · exact lxlt_of (not_lxlt q) fun e => nc b hx e.symm
  unfold Asc
  rw [List.pairwise_append, List.pairwise_append]
  refine ⟨⟨h4, List.pairwise_singleton _ _, fun a ha b hb => by rw [List.mem_singleton.mp hb]; exact a1 a ha⟩, h5, fun a ha b hb => ?_⟩
  rcases List.mem_append.mp ha with ha | ha
  · exact h6 a ha b hb
  · rw [List.mem_singleton.mp ha]; exact a2 b hb
theorem put_mem {c d : D} {xs : List D} {n : Nat} : d ∈ xs.take n ++ [c] ++ xs.drop n ↔ d ∈ xs ∨ d = c := by
  have e : d ∈ xs ↔ d ∈ xs.take n ∨ d ∈ xs.drop n := by rw [← List.mem_append, List.take_append_drop]
  rw [List.mem_append, List.mem_append, List.mem_singleton, e]
  constructor
  · rintro ((h | h) | h)
    · exact .inl (.inl h)
    · exact .inr h
    · exact .inl (.inr h)
  · rintro ((h | h) | h)
    · exact .inl (.inl h)
    · exact .inr h
    · exact .inl (.inr h)
def Ris (f : D → P2) (xs : List D) : Prop := xs.Pairwise fun a b => lxle (f a) (f b)
theorem pys_C2 (f : D → P2) : ∀ xs : List D, pys (xs.map fun c => C2 (f c)) = xs.map fun c => .tuple [.int (f c).1, .int (f c).2]
  | [] => rfl
  | x :: xs => by
    show (C2 (f x)).py :: pys _ = _
    rw [pys_C2 f xs]; rfl
theorem zip_self_map {α β : Type} (g : α → β) : ∀ xs : List α, xs.zip (xs.map g) = xs.map fun x => (x, g x)
  | [] => rfl
  | x :: xs => by
    rw [List.map_cons, List.zip_cons_cons, zip_self_map g xs]; rfl
theorem sortBy_C2 (f : D → P2) (xs : List D) : sortBy xs (pys (xs.map fun c => C2 (f c))) = xs.mergeSort fun a b => decide (lxle (f a) (f b)) := by
  unfold sortBy
  rw [pys_C2, zip_self_map]
  have e := List.map_mergeSort (r := fun a b => decide (lxle (f a) (f b))) (s := PySem.W.dataLe false fun p : D × PyData => p.2) (f := fun c : D => (c, PyData.tuple [.int (f c).1, .int (f c).2])) (l := xs) (fun a _ b _ => by
    have := congrFun (congrFun (PySem.W.dataLe_ii (β := D) (fun c => (f c).1) fun c => (f c).2) a) b
    exact this.symm)
  rw [← e, List.map_map]
  exact List.map_id _
theorem sort_ris (f : D → P2) (xs : List D) : Ris f (xs.mergeSort fun a b => decide (lxle (f a) (f b))) := by
  have := List.pairwise_mergeSort (le := fun a b => decide (lxle (f a) (f b))) (fun a b c h k => decide_eq_true (lxle_trans (of_decide_eq_true h) (of_decide_eq_true k))) (fun a b => by
    rcases lxle_total (f a) (f b) with h | h
    · rw [decide_eq_true h]; rfl
    · rw [decide_eq_true h, Bool.or_true]) xs
  exact List.Pairwise.imp (fun h => of_decide_eq_true h) this
theorem srtB_C2 (f : D → P2) (xs : List D) : srtB (pys (xs.map fun c => C2 (f c))) = true := by
  rw [pys_C2]
  unfold srtB
  have a1 : ∀ g h : D, PySem.W.alike (.tuple [.int (f g).1, .int (f g).2]) (.tuple [.int (f h).1, .int (f h).2]) = true := fun g h => rfl
  simp only [Bool.and_eq_true, Bool.or_eq_true, List.all_eq_true, List.mem_map, decide_eq_true_eq]
  refine ⟨⟨?_, .inl ?_⟩, ?_⟩
  · rintro d ⟨g, _, rfl⟩ e ⟨h, _, rfl⟩
    exact a1 g h
  · rintro d ⟨g, _, rfl⟩
    rfl
  · rintro d ⟨g, _, rfl⟩
    show PyData.depth _ ≤ 64
    simp [PyData.depth, PyData.depthAll]
section
variable {s u : Nat} {L : Int} {cs : List D} {a b x y : D}
theorem scv_eq (hx : Num s x) (hy : Num s y) (h0 : 0 < L) (dx : belD x ∣ L) (dy : belD y ∣ L) (e : sc x L = sc y L) : x = y := by
  have e1 := sc_val hx dx; have e2 := sc_val hy dy
  refine num_ext hx hy ?_
  rw [e] at e1
  have : (topD x * belD y) * L = (topD y * belD x) * L := by grind
  exact Int.eq_of_mul_eq_mul_right (by omega) this
theorem sc_lt (hx : Num s x) (hy : Num s y) (h0 : 0 < L) (dx : belD x ∣ L) (dy : belD y ∣ L) : ltN x y ↔ sc x L < sc y L := by
  have e1 := sc_val hx dx; have e2 := sc_val hy dy
  have bx := bel_pos hx; have byy := bel_pos hy
  unfold ltN
  have hp : 0 < belD x * belD y := Int.mul_pos bx byy
  have f1 : (topD x * belD y) * L = sc x L * (belD x * belD y) := by grind
  have f2 : (topD y * belD x) * L = sc y L * (belD x * belD y) := by grind
  constructor
  · intro h
    have := Int.mul_lt_mul_of_pos_right h h0
    rw [f1, f2] at this
    exact Int.lt_of_mul_lt_mul_right this (Int.le_of_lt hp)
  · intro h
    have := Int.mul_lt_mul_of_pos_right h hp
    rw [← f1, ← f2] at this
    exact Int.lt_of_mul_lt_mul_right this (Int.le_of_lt h0)
theorem wc_inj (C : Com s u L cs) (hc : ∀ c ∈ cs, Cor s c) (ha : a ∈ cs) (hb : b ∈ cs) (e : wc L a = wc L b) : a = b := by
  have ca := hc a ha; have cb := hc b hb
  rw [ca.eta, cb.eta]
  have e1 := scv_eq ca.xn cb.xn C.pos (C.dvd a ha).1 (C.dvd b hb).1 (congrArg Prod.fst e)
  have e2 := scv_eq ca.yn cb.yn C.pos (C.dvd a ha).2 (C.dvd b hb).2 (congrArg Prod.snd e)
  rw [e1, e2]
theorem wc_lt (C : Com s u L cs) (hc : ∀ c ∈ cs, Cor s c) (ha : a ∈ cs) (hb : b ∈ cs) : lxlt (wc L a) (wc L b) ↔ ltN (xOf a) (xOf b) ∨ (xOf a = xOf b ∧ ltN (yOf a) (yOf b)) := by
  have ca := hc a ha; have cb := hc b hb
  have l1 := sc_lt ca.xn cb.xn C.pos (C.dvd a ha).1 (C.dvd b hb).1
  have l2 := sc_lt ca.yn cb.yn C.pos (C.dvd a ha).2 (C.dvd b hb).2
  have l3 : sc (xOf a) L = sc (xOf b) L ↔ xOf a = xOf b := ⟨scv_eq ca.xn cb.xn C.pos (C.dvd a ha).1 (C.dvd b hb).1, fun h => by rw [h]⟩
  show sc _ L < sc _ L ∨ (sc _ L = sc _ L ∧ sc _ L < sc _ L) ↔ _
  rw [l1, l2, l3]
end
end Vd
end
section
namespace Vd
open PySem L2
local macro_rules | `(tactic| and_intros) => `(tactic| simp only [kd_pp, kd_rp, kd_tp, kd_pt, kd_rt, kd_tt, frzs_tups, isFzs_tups, v_insert, v_enum, w_SortK, wR_ok, wR_bind, w_C, w_Var, g_Var1, g_Var2, w_Mv, g_Mv1, g_Mv2, w_End, w_ov, w_op, g_Op1, g_Op2, w_oz, g_Oz1, g_Oz2, w_1, w_2, w_Not, w_Isi, w_Isi2, w_Ops0, w_Ops1, w_Tup, w_N, w_Sl, w_noPart, w_aPart, k_Part, w_Chain, isB_bl, cIf_t, cIf_f, cIf_n, w_ChainE, w_If, w_And, w_Or, w_Tru, w_Val, w_BAnd, w_BOr, w_BNot, w_BYes, w_Nil, w_Br, w_Ct, g_nx, g_br, g_ct, g_rt, w_Seq, w_SIf, w_Ret, w_Drop, w_Set, g_Set, g_Tup1, g_Tup2, g_All0, g_All1, isI_int, g_Item, q_Item, w_Q0, w_Q1, w_Lst, w_Par, w_Mut, g_Mu1, g_Mu2, v_append, k_Ext, w_Ext, g_Ex1, g_Ex2, w_Call, w_Args0, w_Args1, w_Args2, g_Ar, k_Call, w_As0, w_As1, w_As2, g_As, putm0, putm1, putm2, w_O0, w_O1, w_O2, q_rt, q_nx, w_fn, slots0, slots1, slots2, aft_nx, aft_ct, aft_br, aft_rt, w_sO0, w_sO1, w_sv, w_sp, g_Sp1, g_Sp2, w_sz, g_Sz1, g_Sz2, w_For, k_For, w_Lc, w_eO0, w_eO1, w_ev, w_ep, w_ez, k_Lc, v_add, v_addL, v_addT, v_sub, v_mul, v_fdiv, v_mod, v_pow, v_neg, v_lt, v_le, v_gt, v_ge, shp_int, shp_bl, shp_non, v_eq, v_ne, v_eqB, g_Ix, v_ixL, v_ixT, g_X, v_idx, v_lenL, v_lenT, v_abs, v_max, v_min, v_tup, v_list, v_listT, v_tuple, v_tupleT, v_slL, v_slT, v_truB, v_truI, v_truT, v_truL, v_truN, v_itL, v_itT, v_r1, v_r2, v_isB, v_isN, v_isntN, List.getElem?_cons_zero, List.getElem?_cons_succ, List.set_cons_zero, List.set_cons_succ, List.length_cons, List.length_nil, List.cons_append, List.nil_append, List.append_nil, List.replicate_succ, List.replicate_zero, D.frz, frzs, D.isFz, isFzs, dwipe, restore, relk, Bool.and_true, Bool.true_and, Bool.and_false, Bool.false_and, Bool.or_true, Bool.true_or, Bool.or_false, Bool.false_or, Bool.not_true, Bool.not_false, and_true, true_and, at_of, ix_of, frzs_ints, isFzs_ints, List.length_map, Int.toNat_natCast, ↓reduceIte, Nat.reduceAdd, Nat.reduceSub, Nat.reduceLT, Nat.reduceLeDiff, Int.reduceLT, Int.reduceLE, Int.reduceEq, Int.reduceAdd, Int.reduceSub, Int.reduceMul, Int.reduceNeg, Int.reduceToNat, Int.reducePow, Int.reduceBNe, Int.reduceBEq, reduceCtorEq, mulOk_l, mulOk_r, fdivOk_s, modOk_p, powOk_s, cast_of, small_le, small_lt, filt_yes, frzs_bls, v_anyB, v_allB, cutL_map, c_isIntDN, c_isIntDB, c_isIntDI, c_isIntDS, c_isIntDT, c_isIntDL, c_isBoolDN, c_isBoolDB, c_isBoolDI, c_isBoolDS, c_isBoolDT, c_isBoolDL, c_isStrDN, c_isStrDB, c_isStrDI, c_isStrDS, c_isStrDT, c_isStrDL, c_isTupDN, c_isTupDB, c_isTupDI, c_isTupDS, c_isTupDT, c_isTupDL, c_isLstDN, c_isLstDB, c_isLstDI, c_isLstDS, c_isLstDT, c_isLstDL, c_D_isNonN, c_D_isNonB, c_D_isNonI, c_D_isNonS, c_D_isNonT, c_D_isNonL, c_frz1N, c_isFz1N, c_frz1B, c_isFz1B, c_frz1I, c_isFz1I, c_frz1S, c_isFz1S, c_frz1T, c_isFz1T, c_frz1L, c_isFz1L, v_zip, v_zipT, v_enum, v_minI, v_maxI, v_minT, v_maxT, w_CallO, w_AugI, g_Aug, intAt1, intAt2, v_int, v_intB, v_extT, v_extL, okArgs0, okArgs1, okArgs2, w_Idx, k_Idx, v_reverse, v_insert, decide_true, decide_false, Bool.and_self])
local macro_rules | `(tactic| nofun) => `(tactic| simp only [kd_pp, kd_rp, kd_tp, kd_pt, kd_rt, kd_tt, frzs_tups, isFzs_tups, v_insert, v_enum, w_SortK, wR_ok, wR_bind, w_C, w_Var, g_Var1, g_Var2, w_Mv, g_Mv1, g_Mv2, w_End, w_ov, w_op, g_Op1, g_Op2, w_oz, g_Oz1, g_Oz2, w_1, w_2, w_Not, w_Isi, w_Isi2, w_Ops0, w_Ops1, w_Tup, w_N, w_Sl, w_noPart, w_aPart, k_Part, w_Chain, isB_bl, cIf_t, cIf_f, cIf_n, w_ChainE, w_If, w_And, w_Or, w_Tru, w_Val, w_BAnd, w_BOr, w_BNot, w_BYes, w_Nil, w_Br, w_Ct, g_nx, g_br, g_ct, g_rt, w_Seq, w_SIf, w_Ret, w_Drop, w_Set, g_Set, g_Tup1, g_Tup2, g_All0, g_All1, isI_int, g_Item, q_Item, w_Q0, w_Q1, w_Lst, w_Par, w_Mut, g_Mu1, g_Mu2, v_append, k_Ext, w_Ext, g_Ex1, g_Ex2, w_Call, w_Args0, w_Args1, w_Args2, g_Ar, k_Call, w_As0, w_As1, w_As2, g_As, putm0, putm1, putm2, w_O0, w_O1, w_O2, q_rt, q_nx, w_fn, slots0, slots1, slots2, aft_nx, aft_ct, aft_br, aft_rt, w_sO0, w_sO1, w_sv, w_sp, g_Sp1, g_Sp2, w_sz, g_Sz1, g_Sz2, w_For, k_For, w_Lc, w_eO0, w_eO1, w_ev, w_ep, w_ez, k_Lc, v_add, v_addL, v_addT, v_sub, v_mul, v_fdiv, v_mod, v_pow, v_neg, v_lt, v_le, v_gt, v_ge, shp_int, shp_bl, shp_non, v_eq, v_ne, v_eqB, g_Ix, v_ixL, v_ixT, g_X, v_idx, v_lenL, v_lenT, v_abs, v_max, v_min, v_tup, v_list, v_listT, v_tuple, v_tupleT, v_slL, v_slT, v_truB, v_truI, v_truT, v_truL, v_truN, v_itL, v_itT, v_r1, v_r2, v_isB, v_isN, v_isntN, List.getElem?_cons_zero, List.getElem?_cons_succ, List.set_cons_zero, List.set_cons_succ, List.length_cons, List.length_nil, List.cons_append, List.nil_append, List.append_nil, List.replicate_succ, List.replicate_zero, D.frz, frzs, D.isFz, isFzs, dwipe, restore, relk, Bool.and_true, Bool.true_and, Bool.and_false, Bool.false_and, Bool.or_true, Bool.true_or, Bool.or_false, Bool.false_or, Bool.not_true, Bool.not_false, and_true, true_and, at_of, ix_of, frzs_ints, isFzs_ints, List.length_map, Int.toNat_natCast, ↓reduceIte, Nat.reduceAdd, Nat.reduceSub, Nat.reduceLT, Nat.reduceLeDiff, Int.reduceLT, Int.reduceLE, Int.reduceEq, Int.reduceAdd, Int.reduceSub, Int.reduceMul, Int.reduceNeg, Int.reduceToNat, Int.reducePow, Int.reduceBNe, Int.reduceBEq, reduceCtorEq, mulOk_l, mulOk_r, fdivOk_s, modOk_p, powOk_s, cast_of, small_le, small_lt, filt_yes, frzs_bls, v_anyB, v_allB, cutL_map, c_isIntDN, c_isIntDB, c_isIntDI, c_isIntDS, c_isIntDT, c_isIntDL, c_isBoolDN, c_isBoolDB, c_isBoolDI, c_isBoolDS, c_isBoolDT, c_isBoolDL, c_isStrDN, c_isStrDB, c_isStrDI, c_isStrDS, c_isStrDT, c_isStrDL, c_isTupDN, c_isTupDB, c_isTupDI, c_isTupDS, c_isTupDT, c_isTupDL, c_isLstDN, c_isLstDB, c_isLstDI, c_isLstDS, c_isLstDT, c_isLstDL, c_D_isNonN, c_D_isNonB, c_D_isNonI, c_D_isNonS, c_D_isNonT, c_D_isNonL, c_frz1N, c_isFz1N, c_frz1B, c_isFz1B, c_frz1I, c_isFz1I, c_frz1S, c_isFz1S, c_frz1T, c_isFz1T, c_frz1L, c_isFz1L, v_zip, v_zipT, v_enum, v_minI, v_maxI, v_minT, v_maxT, w_CallO, w_AugI, g_Aug, intAt1, intAt2, v_int, v_intB, v_extT, v_extL, okArgs0, okArgs1, okArgs2, w_Idx, k_Idx, v_reverse, v_insert, decide_true, decide_false, Bool.and_self, *])
def b_sorted_corners (C : CE) : SS :=
  sSeq (sSet (gSet 1) (rCall C 9 [.vw (oz 0)])) (sRet (rSortK 2 (rCall C 8 [.vw (oz 2), .vw (op 1)]) (oz 0)))
class H_sorted_corners (sem : Nat → CE) : Prop where
  h : ∀ (n : Nat) (args : List D), sem (n + 1) 328 args = fnRun 3 [false] (b_sorted_corners (sem n)) args
def b_each_once (C : CE) : SS :=
  sRet (rLc [.z 0] enumD [1, 2] (gTup' [gSet 1, gSet 2]) (bOr (bVal (r2 eqD (op 1) (ov (rC (.int 0))))) (bVal (r2 neD (op 2) (ov (r2 itemD (oz 0) (ov (r2 subD (op 1) (ov (rC (.int 1)))))))))) (rVar 2))
class H_each_once (sem : Nat → CE) : Prop where
  h : ∀ (n : Nat) (args : List D), sem (n + 1) 71 args = fnRun 3 [false] (b_each_once (sem n)) args
def b_corners_in (C : CE) : SS :=
  sRet (rCall C 71 [.vw (ov (rCall C 328 [.vw (ov (rCall C 52 [.vw (oz 0)]))]))])
class H_corners_in (sem : Nat → CE) : Prop where
  h : ∀ (n : Nat) (args : List D), sem (n + 1) 329 args = fnRun 1 [false] (b_corners_in (sem n)) args
def b__law_ahead (C : CE) : SS :=
  sSeq (sIf (bVal (r2 neD (ov (r2 itemD (oz 0) (ov (rC (.int 0))))) (ov (r2 itemD (oz 1) (ov (rC (.int 0))))))) (sRet (rCall C 65 [.vw (ov (r2 itemD (oz 0) (ov (rC (.int 0))))), .vw (ov (r2 itemD (oz 1) (ov (rC (.int 0)))))])) (sNil)) (sRet (rCall C 65 [.vw (ov (r2 itemD (oz 0) (ov (rC (.int 1))))), .vw (ov (r2 itemD (oz 1) (ov (rC (.int 1)))))]))
class H__law_ahead (sem : Nat → CE) : Prop where
  h : ∀ (n : Nat) (args : List D), sem (n + 1) 66 args = fnRun 2 [false, false] (b__law_ahead (sem n)) args
def b__law_put_in (C : CE) : SS :=
  sSeq (sSet (gSet 1) (rLst [])) (sSeq (sFor [.z 0] itemsD (gSet 2) (sIf (bVal (r2 (inD true) (op 2) (op 1))) (sSeq (sSet (gSet 3) (rN lenD [ov (rLc [.z 1] itemsD [4] (gSet 4) (bTru (ov (rCall C 66 [.vw (oz 4), .vw (oz 2)]))) (rVar 4))])) (sDrop (rMut 1 insertF [rVar 3, rVar 2]))) (sNil))) (sRet (rMv 1)))
class H__law_put_in (sem : Nat → CE) : Prop where
  h : ∀ (n : Nat) (args : List D), sem (n + 1) 74 args = fnRun 5 [false] (b__law_put_in (sem n)) args

variable {sem : Nat → CE} {s u : Nat} {L : Int} {cs ys : List D} {f : D → P2} {a b c : D}
theorem F_sorted [H_greatest_in_both sem] [H_top_of sem] [H_below_of sem] [H_common_below sem] [H_common_of_corners sem] [H_whole_by sem] [H_whole_corner sem] [H_sorted_corners sem] (n : Nat) {o : Bool} (hc : ∀ c ∈ cs, Cor s c) (h0 : 0 < s) (hs : s * (2 * cs.length) + 1 + s ≤ 8000) (hl : cs.length ≤ 1000) :
    ∃ L, Com s (s * (2 * cs.length) + 1) L cs ∧ sem (n + 4) 328 [.lst o cs] = .ok (.lst true (cs.mergeSort fun a b => decide (lxle (wc L a) (wc L b))), []) := by
  obtain ⟨L, e1, hL⟩ := F_ccL (sem := sem) n (o := o) hc h0 hs hl
  have C := hL.com hc
  refine ⟨L, C, ?_⟩
  have fz := cors_fz hc
  have fr := frzs_of fz
  have hw : ∀ x ∈ cs, sem (n + 3) 8 [x, .int L] = .ok (C2 (wc L x), []) := fun x hx => F_wc (sem := sem) n (hc x hx) h0 (by omega) C.pos C.bits (by omega)
  apply wR_get
  rw [H_sorted_corners.h (sem := sem)]
  unfold b_sorted_corners
  nofun
  refine w_sortF (ks := cs.map fun c => C2 (wc L c)) (keysF_map (fun c => C2 (wc L c)) (fun x hx => ?_) fun _ _ => rfl) (srtB_C2 _ _) fz (by unfold sizeLine; omega) ?_
  · have e := hw x hx
    have g1 := (hc x hx).fz; have g2 := frz_of g1; have g3 := fz1_of g1; have g4 := frz1_of g1
    clear hw hc e1 hL C
    have : ∀ ds2, wE (rCall (sem (n + 3)) 8 [.vw (oz 2), .vw (op 1)]) [ds2, .lk (.int L), .lk x] (fun d _ => d = C2 (wc L x)) := fun ds2 => by
      nofun
    obtain ⟨d, ds', e5, rfl⟩ := this _
    exact ⟨ds', e5⟩
  · rw [sortBy_C2]
    nofun
theorem enum_get {xs : List D} {i : Nat} {x : D} (h : (List.zipWith pairD ((List.range xs.length).map fun k : Nat => D.int k) xs)[i]? = some x) : ∃ c, xs[i]? = some c ∧ i < xs.length ∧ x = .tup [.int i, c] := by
  rw [List.getElem?_zipWith] at h
  by_cases hi : i < xs.length
  · have : xs[i]? = some xs[i] := by simp [hi]
    rw [this] at h ⊢
    simp [hi] at h
    exact ⟨_, rfl, hi, h.symm⟩
  · rw [List.getElem?_eq_none (l := xs) (by omega)] at h
    cases h2 : ((List.range xs.length).map fun k : Nat => D.int k)[i]? <;> simp [h2] at h
theorem F_once [H_each_once sem] (n : Nat) {o : Bool} (hc : ∀ c ∈ ys, Cor s c) (hr : Ris f ys) (inj : ∀ a ∈ ys, ∀ b ∈ ys, f a = f b → a = b) (hl : ys.length ≤ 1000) :
    ∃ zs, sem (n + 1) 71 [.lst o ys] = .ok (.lst true zs, []) ∧ Asc f zs ∧ zs.length ≤ ys.length ∧ ∀ c, c ∈ zs ↔ c ∈ ys := by
  have : wR (sem (n + 1) 71 [.lst o ys]) fun q => ∃ zs, q = (.lst true zs, []) ∧ Asc f zs ∧ zs.length ≤ ys.length ∧ ∀ c, c ∈ zs ↔ c ∈ ys := by
    have fz := cors_fz hc
    have fr := frzs_of fz
    rw [H_each_once.h (sem := sem)]
    unfold b_each_once
    nofun
    refine w_lc (fun i out ds => dwipe ds [1, 2] = [.lk (.lst o ys), .no, .no] ∧ Asc f out ∧ out.length ≤ i ∧ ∀ c, c ∈ out ↔ c ∈ ys.take i) ⟨rfl, List.Pairwise.nil, by simp, by simp⟩ (fun i x ds out hx hI => ?_) fun out ds hI => ?_
    · obtain ⟨e, hA, hn, hM⟩ := hI
      obtain ⟨c, hci, hi, rfl⟩ := enum_get hx
      rw [e]
      have hcm := List.mem_of_getElem? hci
      have g1 := (hc c hcm).fz; have g2 := frz_of g1; have g3 := fz1_of g1; have g4 := frz1_of g1
      have tk : ys.take (i + 1) = ys.take i ++ [c] := by rw [List.take_add_one, hci]; rfl
      have put : (∀ b ∈ out, lxlt (f b) (f c)) → Asc f (out ++ [c]) ∧ (out ++ [c]).length ≤ i + 1 ∧ ∀ d, d ∈ out ++ [c] ↔ d ∈ ys.take (i + 1) := fun h => ⟨asc_snoc hA h, by rw [List.length_append]; simp; omega, fun d => by rw [tk, List.mem_append, List.mem_append, hM]⟩
      clear hx
      by_cases hi0 : i = 0
      · subst hi0
        have p0 := put fun b hb => by
          have := (hM b).mp hb
          simp at this
        clear hM hA put
        nofun
        exact fun _ => trivial
      · have hj : i - 1 < ys.length := by omega
        have hp : ys[i - 1]? = some ys[i - 1] := by simp [hj]
        generalize ys[i - 1] = p at hp
        have hpm := List.mem_of_getElem? hp
        have ap : atI ys ((i : Int) - 1) = some p := by
          have := at_n (xs := ys) (n := i - 1)
          rw [show ((i - 1 : Nat) : Int) = (i : Int) - 1 by omega] at this
          rw [this, hp]
        have ne0 : ¬ ((i : Int) = 0) := by omega
        have nep := ne_pl (hc c hcm).pl (hc p hpm).pl (by omega) (by omega)
        have r1 := (hc p hpm).fz; have r2 := frz_of r1; have r3 := fz1_of r1; have r4 := frz1_of r1
        have keep : c = p → ∀ d, d ∈ out ↔ d ∈ ys.take (i + 1) := fun q d => by
          rw [tk, List.mem_append, List.mem_singleton, hM]
          refine ⟨.inl, fun z => z.elim id fun z => ?_⟩
          rw [z, q, List.mem_take_iff_getElem]
          exact ⟨i - 1, by omega, by rw [List.getElem?_eq_getElem hj] at hp; exact Option.some.inj hp⟩
        have strict : c ≠ p → ∀ b ∈ out, lxlt (f b) (f c) := fun q b hb => by
          have hb2 := (hM b).mp hb
          obtain ⟨j, hj2, ej⟩ := List.mem_take_iff_getElem.mp hb2
          have hji : j < i := by omega
          have hjl : j < ys.length := by omega
          have R := List.pairwise_iff_getElem.mp hr
          have ep : ys[i - 1] = p := by rw [List.getElem?_eq_getElem hj] at hp; exact Option.some.inj hp
          have ec : ys[i] = c := by rw [List.getElem?_eq_getElem hi] at hci; exact Option.some.inj hci
          have l1 := R (i - 1) i hj hi (by omega)
          rw [ep, ec] at l1
          have l2 : lxle (f b) (f p) := by
            rcases Nat.lt_or_ge j (i - 1) with h | h
            · have := R j (i - 1) hjl hj h
              rw [ep, ej] at this; exact this
            · have : j = i - 1 := by omega
              subst this
              rw [← ej, ep]; exact .inr ⟨rfl, by omega⟩
          refine lxlt_of (lxle_trans l2 l1) fun e => q ?_
          rw [e] at l2
          exact inj c hcm p hpm (lxle_anti l2 l1)
        clear hM inj hr hc
        nofun
        refine cIf_split (fun q => ?_) fun q => ?_
        · exact ⟨rfl, hA, by omega, keep q⟩
        · have := put (strict q)
          clear put strict keep
          nofun
          exact fun _ => trivial
    · obtain ⟨e, hA, hn, hM⟩ := hI
      simp only [dwipe] at e
      rw [List.length_zipWith, List.length_map, List.length_range, Nat.min_self] at hn hM
      rw [List.take_length] at hM
      have k : ∃ zs, ((D.lst true out, []) : D × List D) = (.lst true zs, []) ∧ Asc f zs ∧ zs.length ≤ ys.length ∧ ∀ c, c ∈ zs ↔ c ∈ ys := ⟨out, rfl, hA, hn, hM⟩
      have hz : out.length ≤ sizeLine := by unfold sizeLine; omega
      clear hA hM hn inj hr hc
      have e2 : ((((ds.set 2 .no).set 1 .no).set 2 .no).set 1 .no) = [Slot.lk (.lst o ys), .no, .no] := by rw [e]; rfl
      and_intros
      · exact hz
      · rw [e2]
        and_intros
        exact k
  obtain ⟨q, e, zs, rfl, h1, h2⟩ := this
  exact ⟨zs, e, h1, h2⟩
theorem F_ahead [H__law_split sem] [H__law_less sem] [H__law_ahead sem] (n : Nat) (C : Com s u L cs) (hc : ∀ c ∈ cs, Cor s c) (ha : a ∈ cs) (hb : b ∈ cs) (h0 : 0 < s) (hs : s ≤ 8990) : sem (n + 3) 66 [a, b] = .ok (.bl (decide (lxlt (wc L a) (wc L b))), []) := by
  have W := wc_lt C hc ha hb
  obtain ⟨x, y, rfl, hx, hy⟩ := hc a ha
  obtain ⟨p, q, rfl, hp, hq⟩ := hc b hb
  change _ ↔ ltN x p ∨ (x = p ∧ ltN y q) at W
  have e1 := F_less (sem := sem) n hx hp h0 hs; have e2 := F_less (sem := sem) n hy hq h0 hs
  have i0 : itemD (.tup [x, y]) (.int 0) = .ok x := rfl
  have i1 : itemD (.tup [x, y]) (.int 1) = .ok y := rfl
  have j0 : itemD (.tup [p, q]) (.int 0) = .ok p := rfl
  have j1 : itemD (.tup [p, q]) (.int 1) = .ok q := rfl
  have nq := ne_pl hx.pl hp.pl (by omega) (by omega)
  have W1 : x ≠ p → decide (ltN x p) = decide (lxlt (wc L (.tup [x, y])) (wc L (.tup [p, q]))) := fun h => decide_eq_decide.mpr ⟨fun z => W.mpr (.inl z), fun z => (W.mp z).elim id fun t => absurd t.1 h⟩
  have W2 : x = p → decide (ltN y q) = decide (lxlt (wc L (.tup [x, y])) (wc L (.tup [p, q]))) := fun h => decide_eq_decide.mpr ⟨fun z => W.mpr (.inr ⟨h, z⟩), fun z => (W.mp z).elim (fun t => by rw [h] at t; exact absurd t ltN_irr) fun t => t.2⟩
  generalize decide (lxlt (wc L (.tup [x, y])) (wc L (.tup [p, q]))) = r at *
  have f1 := hx.fz; have f2 := hx.frz; have f3 := hx.fz1; have f4 := hx.frz1
  have g1 := hy.fz; have g2 := hy.frz; have g3 := hy.fz1; have g4 := hy.frz1
  have p1 := hp.fz; have p2 := hp.frz; have p3 := hp.fz1; have p4 := hp.frz1
  have q1 := hq.fz; have q2 := hq.frz; have q3 := hq.fz1; have q4 := hq.frz1
  clear W C hc ha hb hx hy hp hq
  apply wR_get
  rw [H__law_ahead.h (sem := sem)]
  unfold b__law_ahead
  nofun
  refine cIf_split (fun h => ?_) fun h => ?_
  · have := W2 h
    clear W1 W2
    nofun
  · have := W1 h
    clear W1 W2
    nofun
theorem F_put_in [H__law_split sem] [H__law_less sem] [H__law_ahead sem] [H__law_put_in sem] (n : Nat) {o : Bool} (C : Com s u L cs) (hc : ∀ c ∈ cs, Cor s c) (h0 : 0 < s) (hs : s ≤ 8990) (hl : cs.length ≤ 1000) :
    ∃ zs, sem (n + 4) 74 [.lst o cs] = .ok (.lst true zs, []) ∧ Asc (wc L) zs ∧ ∀ c, c ∈ zs ↔ c ∈ cs := by
  have : wR (sem (n + 4) 74 [.lst o cs]) fun q => ∃ zs, q = (.lst true zs, []) ∧ Asc (wc L) zs ∧ ∀ c, c ∈ zs ↔ c ∈ cs := by
    have fz := cors_fz hc
    have fr := frzs_of fz
    rw [H__law_put_in.h (sem := sem)]
    unfold b__law_put_in
    nofun
    refine w_loop (fun i ds => ∃ zs s2 s3 s4, ds = [.lk (.lst o cs), .own (.lst true zs), s2, s3, s4] ∧ Asc (wc L) zs ∧ zs.length ≤ i ∧ ∀ c, c ∈ zs ↔ c ∈ cs.take i) (j := 0) ⟨_, _, _, _, rfl, List.Pairwise.nil, by simp, by simp⟩ (fun i x ds hx hI => ?_) (fun ds hI => ?_)
    · obtain ⟨zs, s2, s3, s4, rfl, hA, hn, hM⟩ := hI
      rw [Nat.zero_add] at *
      have hi : i < cs.length := (List.getElem?_eq_some_iff.mp hx).1
      have hxm := List.mem_of_getElem? hx
      have tk : cs.take (i + 1) = cs.take i ++ [x] := by rw [List.take_add_one, hx]; rfl
      have hz : ∀ c ∈ zs, c ∈ cs := fun c h => List.mem_of_mem_take ((hM c).mp h)
      have zf : isFzs zs = true := cors_fz fun c h => hc c (hz c h)
      have zr := frzs_of zf
      have inL := in_plL (o := true) (neg := true) (hc x hxm).pl (fun e he => (hc e (hz e he)).pl) (by omega) (by omega)
      have g1 := (hc x hxm).fz; have g2 := frz_of g1; have g3 := fz1_of g1; have g4 := frz1_of g1
      have had : ∀ b ∈ zs, sem (n + 3) 66 [b, x] = .ok (.bl (decide (lxlt (wc L b) (wc L x))), []) := fun b hb => F_ahead (sem := sem) n C hc (hz b hb) hxm h0 hs
      have hcz : ∀ b ∈ zs, Cor s b := fun b hb => hc b (hz b hb)
      have put := fun h => asc_put (c := x) (n := (zs.filter fun b => decide (lxlt (wc L b) (wc L x))).length) hA h rfl
      have stay : x ∈ zs → ∀ c, c ∈ zs ↔ c ∈ cs.take (i + 1) := fun q c => by
        rw [tk, List.mem_append, List.mem_singleton, hM]
        exact ⟨.inl, fun z => z.elim id fun z => by rw [z]; exact (hM x).mp q⟩
      have mem2 : ∀ n c, c ∈ zs.take n ++ [x] ++ zs.drop n ↔ c ∈ cs.take (i + 1) := fun n c => by
        rw [put_mem, tk, List.mem_append, List.mem_singleton, hM]
      have inj : ∀ b ∈ zs, b ≠ x → wc L b ≠ wc L x := fun b hb h e => h (wc_inj C hc (hz b hb) hxm e)
      clear hM C hc
      nofun
      by_cases q : x ∈ zs
      · have st := stay q
        rw [decide_eq_true q]
        clear stay mem2 inj put had hcz hz inL
        show wS sNil _ _
        and_intros
        exact ⟨_, _, _, _, rfl, hA, by omega, st⟩
      · have pu := put fun b hb => inj b hb fun e => q (e ▸ hb)
        rw [decide_eq_false q]
        have me := mem2 (zs.filter fun b => decide (lxlt (wc L b) (wc L x))).length
        clear stay mem2 inj put inL
        show wS (sSeq _ _) _ _
        clear hA
        generalize hnn : (zs.filter fun b => decide (lxlt (wc L b) (wc L x))).length = nn at *
        have hnl : nn ≤ zs.length := by rw [← hnn]; exact List.length_filter_le _ _
        nofun
        refine w_map id (fun b => decide (lxlt (wc L b) (wc L x))) [.lk (.lst o cs), .lk (.lst true zs), .own x, s3, .no] rfl (fun b hb => ?_) fun ds ed => ?_
        · have hd := had b hb
          have r1 := (hcz b hb).fz; have r2 := frz_of r1; have r3 := fz1_of r1; have r4 := frz1_of r1
          clear had hcz hz me pu
          nofun
          refine cIf_split (fun h => ?_) fun h => ?_
          · and_intros
            exact r2
          · rfl
        · rw [List.map_id]
          simp only [dwipe] at ed
          have ff := frzs_of (cors_fz (xs := zs.filter fun b => decide (lxlt (wc L b) (wc L x))) fun c h => hcz c (List.mem_filter.mp h).1)
          have ln : (zs.take nn ++ [x] ++ zs.drop nn).length ≤ i + 1 := by rw [List.length_append, List.length_append, List.length_take, List.length_drop]; simp; omega
          clear had hcz hz tk
          nofun
          exact ⟨by unfold sizeLine; omega, ⟨by omega, by omega, by unfold sizeLine; omega⟩, _, _, _, _, rfl, pu, ln, me⟩
    · obtain ⟨zs, s2, s3, s4, rfl, hA, hn, hM⟩ := hI
      rw [Nat.zero_add, List.take_length] at *
      have k : ∃ ws, ((D.lst true zs, []) : D × List D) = (.lst true ws, []) ∧ Asc (wc L) ws ∧ ∀ c, c ∈ ws ↔ c ∈ cs := ⟨zs, rfl, hA, hM⟩
      clear hA hM hn hc
      and_intros
      exact k
  obtain ⟨q, e, zs, rfl, h1, h2⟩ := this
  exact ⟨zs, e, h1, h2⟩
end Vd
end
section
namespace Vd
open PySem L2
variable {sem : Nat → CE} {s u : Nat} {x y : D}
local macro_rules | `(tactic| and_intros) => `(tactic| simp only [kd_pp, kd_rp, kd_tp, kd_pt, kd_rt, kd_tt, frzs_tups, isFzs_tups, neB, beq_tt, beq_ff, beq_tf, beq_ft, lc0, lc1, wR_ok, wR_bind, w_C, w_Var, g_Var1, g_Var2, w_Mv, g_Mv1, g_Mv2, w_End, w_ov, w_op, g_Op1, g_Op2, w_oz, g_Oz1, g_Oz2, w_1, w_2, w_Not, w_Isi, w_Isi2, w_Ops0, w_Ops1, w_Tup, w_N, w_Sl, w_noPart, w_aPart, k_Part, w_Chain, isB_bl, cIf_t, cIf_f, cIf_n, w_ChainE, w_If, w_And, w_Or, w_Tru, w_Val, w_BAnd, w_BOr, w_BNot, w_BYes, w_Nil, w_Br, w_Ct, g_nx, g_br, g_ct, g_rt, w_Seq, w_SIf, w_Ret, w_Drop, w_Set, g_Set, g_Tup1, g_Tup2, g_All0, g_All1, isI_int, g_Item, q_Item, w_Q0, w_Q1, w_Lst, w_Par, w_Mut, g_Mu1, g_Mu2, v_append, k_Ext, w_Ext, g_Ex1, g_Ex2, w_Call, w_Args0, w_Args1, w_Args2, g_Ar, k_Call, w_As0, w_As1, w_As2, g_As, putm0, putm1, putm2, w_O0, w_O1, w_O2, q_rt, q_nx, w_fn, slots0, slots1, slots2, aft_nx, aft_ct, aft_br, aft_rt, w_sO0, w_sO1, w_sv, w_sp, g_Sp1, g_Sp2, w_sz, g_Sz1, g_Sz2, w_For, k_For, w_Lc, w_eO0, w_eO1, w_ev, w_ep, w_ez, k_Lc, v_add, v_addL, v_addT, v_sub, v_mul, v_fdiv, v_mod, v_pow, v_neg, v_lt, v_le, v_gt, v_ge, shp_int, shp_bl, shp_non, v_eq, v_ne, v_eqB, g_Ix, v_ixL, v_ixT, g_X, v_idx, v_lenL, v_lenT, v_abs, v_max, v_min, v_tup, v_list, v_listT, v_tuple, v_tupleT, v_slL, v_slT, v_truB, v_truI, v_truT, v_truL, v_truN, v_itL, v_itT, v_r1, v_r2, v_isB, v_isN, v_isntN, List.getElem?_cons_zero, List.getElem?_cons_succ, List.set_cons_zero, List.set_cons_succ, List.length_cons, List.length_nil, List.cons_append, List.nil_append, List.append_nil, List.replicate_succ, List.replicate_zero, D.frz, frzs, D.isFz, isFzs, dwipe, restore, relk, Bool.and_true, Bool.true_and, Bool.and_false, Bool.false_and, Bool.or_true, Bool.true_or, Bool.or_false, Bool.false_or, Bool.not_true, Bool.not_false, and_true, true_and, at_of, ix_of, frzs_ints, isFzs_ints, List.length_map, Int.toNat_natCast, ↓reduceIte, Nat.reduceAdd, Nat.reduceSub, Nat.reduceLT, Nat.reduceLeDiff, Int.reduceLT, Int.reduceLE, Int.reduceEq, Int.reduceAdd, Int.reduceSub, Int.reduceMul, Int.reduceNeg, Int.reduceToNat, Int.reducePow, Int.reduceBNe, Int.reduceBEq, reduceCtorEq, mulOk_l, mulOk_r, fdivOk_s, modOk_p, powOk_s, cast_of, small_le, small_lt, filt_yes, frzs_bls, v_anyB, v_allB, cutL_map, c_isIntDN, c_isIntDB, c_isIntDI, c_isIntDS, c_isIntDT, c_isIntDL, c_isBoolDN, c_isBoolDB, c_isBoolDI, c_isBoolDS, c_isBoolDT, c_isBoolDL, c_isStrDN, c_isStrDB, c_isStrDI, c_isStrDS, c_isStrDT, c_isStrDL, c_isTupDN, c_isTupDB, c_isTupDI, c_isTupDS, c_isTupDT, c_isTupDL, c_isLstDN, c_isLstDB, c_isLstDI, c_isLstDS, c_isLstDT, c_isLstDL, c_D_isNonN, c_D_isNonB, c_D_isNonI, c_D_isNonS, c_D_isNonT, c_D_isNonL, c_frz1N, c_isFz1N, c_frz1B, c_isFz1B, c_frz1I, c_isFz1I, c_frz1S, c_isFz1S, c_frz1T, c_isFz1T, c_frz1L, c_isFz1L, v_zip, v_zipT, v_enum, v_minI, v_maxI, v_minT, v_maxT, w_CallO, w_AugI, g_Aug, intAt1, intAt2, v_int, v_intB, v_extT, v_extL, okArgs0, okArgs1, okArgs2, w_Idx, k_Idx, v_reverse, v_insert, decide_true, decide_false, Bool.and_self])
local macro_rules | `(tactic| nofun) => `(tactic| simp only [kd_pp, kd_rp, kd_tp, kd_pt, kd_rt, kd_tt, frzs_tups, isFzs_tups, neB, beq_tt, beq_ff, beq_tf, beq_ft, lc0, lc1, wR_ok, wR_bind, w_C, w_Var, g_Var1, g_Var2, w_Mv, g_Mv1, g_Mv2, w_End, w_ov, w_op, g_Op1, g_Op2, w_oz, g_Oz1, g_Oz2, w_1, w_2, w_Not, w_Isi, w_Isi2, w_Ops0, w_Ops1, w_Tup, w_N, w_Sl, w_noPart, w_aPart, k_Part, w_Chain, isB_bl, cIf_t, cIf_f, cIf_n, w_ChainE, w_If, w_And, w_Or, w_Tru, w_Val, w_BAnd, w_BOr, w_BNot, w_BYes, w_Nil, w_Br, w_Ct, g_nx, g_br, g_ct, g_rt, w_Seq, w_SIf, w_Ret, w_Drop, w_Set, g_Set, g_Tup1, g_Tup2, g_All0, g_All1, isI_int, g_Item, q_Item, w_Q0, w_Q1, w_Lst, w_Par, w_Mut, g_Mu1, g_Mu2, v_append, k_Ext, w_Ext, g_Ex1, g_Ex2, w_Call, w_Args0, w_Args1, w_Args2, g_Ar, k_Call, w_As0, w_As1, w_As2, g_As, putm0, putm1, putm2, w_O0, w_O1, w_O2, q_rt, q_nx, w_fn, slots0, slots1, slots2, aft_nx, aft_ct, aft_br, aft_rt, w_sO0, w_sO1, w_sv, w_sp, g_Sp1, g_Sp2, w_sz, g_Sz1, g_Sz2, w_For, k_For, w_Lc, w_eO0, w_eO1, w_ev, w_ep, w_ez, k_Lc, v_add, v_addL, v_addT, v_sub, v_mul, v_fdiv, v_mod, v_pow, v_neg, v_lt, v_le, v_gt, v_ge, shp_int, shp_bl, shp_non, v_eq, v_ne, v_eqB, g_Ix, v_ixL, v_ixT, g_X, v_idx, v_lenL, v_lenT, v_abs, v_max, v_min, v_tup, v_list, v_listT, v_tuple, v_tupleT, v_slL, v_slT, v_truB, v_truI, v_truT, v_truL, v_truN, v_itL, v_itT, v_r1, v_r2, v_isB, v_isN, v_isntN, List.getElem?_cons_zero, List.getElem?_cons_succ, List.set_cons_zero, List.set_cons_succ, List.length_cons, List.length_nil, List.cons_append, List.nil_append, List.append_nil, List.replicate_succ, List.replicate_zero, D.frz, frzs, D.isFz, isFzs, dwipe, restore, relk, Bool.and_true, Bool.true_and, Bool.and_false, Bool.false_and, Bool.or_true, Bool.true_or, Bool.or_false, Bool.false_or, Bool.not_true, Bool.not_false, and_true, true_and, at_of, ix_of, frzs_ints, isFzs_ints, List.length_map, Int.toNat_natCast, ↓reduceIte, Nat.reduceAdd, Nat.reduceSub, Nat.reduceLT, Nat.reduceLeDiff, Int.reduceLT, Int.reduceLE, Int.reduceEq, Int.reduceAdd, Int.reduceSub, Int.reduceMul, Int.reduceNeg, Int.reduceToNat, Int.reducePow, Int.reduceBNe, Int.reduceBEq, reduceCtorEq, mulOk_l, mulOk_r, fdivOk_s, modOk_p, powOk_s, cast_of, small_le, small_lt, filt_yes, frzs_bls, v_anyB, v_allB, cutL_map, c_isIntDN, c_isIntDB, c_isIntDI, c_isIntDS, c_isIntDT, c_isIntDL, c_isBoolDN, c_isBoolDB, c_isBoolDI, c_isBoolDS, c_isBoolDT, c_isBoolDL, c_isStrDN, c_isStrDB, c_isStrDI, c_isStrDS, c_isStrDT, c_isStrDL, c_isTupDN, c_isTupDB, c_isTupDI, c_isTupDS, c_isTupDT, c_isTupDL, c_isLstDN, c_isLstDB, c_isLstDI, c_isLstDS, c_isLstDT, c_isLstDL, c_D_isNonN, c_D_isNonB, c_D_isNonI, c_D_isNonS, c_D_isNonT, c_D_isNonL, c_frz1N, c_isFz1N, c_frz1B, c_isFz1B, c_frz1I, c_isFz1I, c_frz1S, c_isFz1S, c_frz1T, c_isFz1T, c_frz1L, c_isFz1L, v_zip, v_zipT, v_enum, v_minI, v_maxI, v_minT, v_maxT, w_CallO, w_AugI, g_Aug, intAt1, intAt2, v_int, v_intB, v_extT, v_extL, okArgs0, okArgs1, okArgs2, w_Idx, k_Idx, v_reverse, v_insert, decide_true, decide_false, Bool.and_self, *])
def b__law_sameH (C : CE) : SS :=
  sSeq (sIf (bTru (ov (rIsi2 isLstD isTupD (op 1)))) (sSeq (sIf (bOr (bVal (r2 neD (ov (rIsi isLstD (op 0))) (ov (rIsi isLstD (op 1))))) (bVal (r2 neD (ov (rIsi isTupD (op 0))) (ov (rIsi isTupD (op 1)))))) (sRet (rC (.bl false))) (sNil)) (sRet (rAnd (r2 eqD (ov (rN lenD [op 0])) (ov (rN lenD [op 1]))) (rN allD [ov (rLc [.z 0, .z 1] zipD [2, 3] (gTup' [gSet 2, gSet 3]) (bYes) (rCall C 72 [.vw (oz 2), .vw (oz 3)]))])))) (sNil)) (sSeq (sIf (bOr (bVal (r2 isD (op 1) (ov (rC .non)))) (bTru (ov (rIsi isStrD (op 1))))) (sRet (rAnd (r2 eqD (op 0) (op 1)) (r2 eqD (ov (rIsi isStrD (op 0))) (ov (rIsi isStrD (op 1)))))) (sNil)) (sRet (rAnd (rIsi isIntD (op 0)) (rAnd (rNot (ov (rIsi isBoolD (op 0)))) (r2 eqD (op 0) (op 1))))))
class H__law_sameH (sem : Nat → CE) : Prop where
  h : ∀ (n : Nat) (args : List D), sem (n + 1) 72 args = fnRun 4 [false, false] (b__law_sameH (sem n)) args
def b__law_sides (C : CE) : SS :=
  sSeq (sSet (gSet 1) (rLst [])) (sSeq (sIf (bVal (r2 eqD (ov (r2 itemD (oz 0) (ov (rC (.int 0))))) (ov (rC (.str ("points" : PySem.Str)))))) (sRet (rMv 1)) (sNil)) (sSeq (sFor [.v (r2 itemD (oz 0) (ov (rC (.int 1))))] itemsD (gSet 2) (sSeq (sFor [.v (rC (.int 1)), .v (rN lenD [op 2])] range2D (gSet 3) (sDrop (rMut 1 appendF [rTup [ov (r2 itemD (oz 2) (ov (r2 subD (op 3) (ov (rC (.int 1)))))), ov (r2 itemD (oz 2) (op 3))]]))) (sIf (bVal (r2 eqD (ov (r2 itemD (oz 0) (ov (rC (.int 0))))) (ov (rC (.str ("patch" : PySem.Str)))))) (sDrop (rMut 1 appendF [rTup [ov (r2 itemD (oz 2) (ov (r2 subD (ov (rN lenD [op 2])) (ov (rC (.int 1)))))), ov (r2 itemD (oz 2) (ov (rC (.int 0))))]])) (sNil)))) (sRet (rMv 1))))
class H__law_sides (sem : Nat → CE) : Prop where
  h : ∀ (n : Nat) (args : List D), sem (n + 1) 73 args = fnRun 4 [false] (b__law_sides (sem n)) args

mutual
def D.pkH : Nat → D → Bool
  | _, .non => false
  | _, .str x => PyData.canLay0 (.str x)
  | _, .int _ => true
  | n + 1, .tup xs => decide (xs.length ≤ 10000) && pksH n xs
  | _, _ => false
def pksH : Nat → List D → Bool
  | _, [] => true
  | n, x :: xs => x.pkH n && pksH n xs
end
theorem pksH_all {n : Nat} : ∀ {xs : List D}, pksH n xs = xs.all (fun x => x.pkH n)
  | [] => by simp [pksH]
  | x :: xs => by rw [pksH, List.all_cons, pksH_all]
theorem pkH_fz {n : Nat} {d : D} (h : d.pkH n = true) : d.isFz = true := by
  cases d with
  | lst o xs => cases n <;> simp [D.pkH] at h
  | _ => rfl
theorem H_same [H__law_sameH sem] (n : Nat) : ∀ (m : Nat) {d : D}, d.pkH m = true → sem (n + m + 1) 72 [d, d] = .ok (.bl true, []) := by
  intro m
  induction m with
  | zero =>
    intro d h
    apply wR_get
    rw [H__law_sameH.h (sem := sem)]
    unfold b__law_sameH
    cases d with
    | non => simp [D.pkH] at h
    | int i => nofun
    | str x =>
      have e := str_ok (x := x) (y := x) (by simpa [D.pkH] using h) (by simpa [D.pkH] using h)
      rw [decide_eq_true rfl] at e
      clear h
      nofun
    | bl b => simp [D.pkH] at h
    | tup xs => simp [D.pkH] at h
    | lst o xs => simp [D.pkH] at h
  | succ m ih =>
    intro d h
    apply wR_get
    rw [H__law_sameH.h (sem := sem)]
    unfold b__law_sameH
    cases d with
    | non => simp [D.pkH] at h
    | int i => nofun
    | str x =>
      have e := str_ok (x := x) (y := x) (by simpa [D.pkH] using h) (by simpa [D.pkH] using h)
      rw [decide_eq_true rfl] at e
      clear h
      nofun
    | bl b => simp [D.pkH] at h
    | lst o xs => simp [D.pkH] at h
    | tup xs =>
      rw [D.pkH, Bool.and_eq_true, decide_eq_true_eq] at h
      obtain ⟨hl, hp⟩ := h
      rw [pksH_all, List.all_eq_true] at hp
      have hfz : isFzs xs = true := by rw [isFzs_eq, List.all_eq_true]; exact fun z hz => pkH_fz (hp z hz)
      have hz := zip_self xs
      have ln : lenD [.tup xs] = .ok (.int xs.length) := rfl
      nofun
      refine w_map (fun _ => .bl true) (fun _ => true) _ rfl (fun x hx => ?_) fun ds e => ?_
      · obtain ⟨z, hzm, rfl⟩ := List.mem_map.mp hx
        have i1 := ih (hp z hzm)
        have f1 := pkH_fz (hp z hzm); have f2 := frz_of f1; have f3 := fz1_of f1; have f4 := frz1_of f1
        rw [show n + (m + 1) = n + m + 1 by omega]
        unfold pairD
        nofun
      · simp only [dwipe] at e
        have mt := fun o => mapt o (xs.map fun x => pairD x x)
        nofun
        unfold sizeLine; omega
theorem Num.pkH {d : D} (h : Num s d) {k : Nat} : d.pkH (k + 1) = true := by
  rcases h.cases with ⟨a, rfl, _⟩ | ⟨a, b, rfl, _⟩
  · rfl
  · cases k <;> rfl
theorem Cor.pkH {d : D} (h : Cor s d) {k : Nat} : d.pkH (k + 2) = true := by
  obtain ⟨p, q, rfl, hp, hq⟩ := h
  simp [D.pkH, pksH, hp.pkH, hq.pkH]
theorem H_sameL [H__law_sameH sem] (n m : Nat) {o p : Bool} {xs : List D} (h : ∀ x ∈ xs, x.pkH m = true) (hl : xs.length ≤ 10000) : sem (n + m + 2) 72 [.lst o xs, .lst p xs] = .ok (.bl true, []) := by
  apply wR_get
  rw [H__law_sameH.h (sem := sem)]
  unfold b__law_sameH
  have hfz : isFzs xs = true := by rw [isFzs_eq, List.all_eq_true]; exact fun z hz => pkH_fz (h z hz)
  have hfr := frzs_of hfz
  have hz := zip_self xs
  have ln : ∀ o, lenD [.lst o xs] = .ok (.int xs.length) := fun _ => rfl
  nofun
  refine w_map (fun _ => .bl true) (fun _ => true) _ rfl (fun x hx => ?_) fun ds e => ?_
  · obtain ⟨z, hzm, rfl⟩ := List.mem_map.mp hx
    have i1 := H_same (sem := sem) n m (h z hzm)
    have f1 := pkH_fz (h z hzm); have f2 := frz_of f1; have f3 := fz1_of f1; have f4 := frz1_of f1
    unfold pairD
    nofun
  · simp only [dwipe] at e
    have mt := fun o => mapt o (xs.map fun x => pairD x x)
    nofun
    unfold sizeLine; omega
theorem H_sameLL [H__law_sameH sem] (n m : Nat) {o p : Bool} {xs ys : List D} (h : ∀ x ∈ xs, x.pkH m = true) (k : ∀ x ∈ ys, x.pkH m = true) (hl : xs.length ≤ 10000) (kl : ys.length ≤ 10000) :
    sem (n + m + 3) 72 [.lst o [.lst false xs, .lst false ys], .lst p [.lst false xs, .lst false ys]] = .ok (.bl true, []) := by
  have e1 : ∀ a b, sem (n + m + 2) 72 [.lst a xs, .lst b xs] = .ok (.bl true, []) := fun a b => H_sameL (sem := sem) n m h hl
  have e2 : ∀ a b, sem (n + m + 2) 72 [.lst a ys, .lst b ys] = .ok (.bl true, []) := fun a b => H_sameL (sem := sem) n m k kl
  have f1 : isFzs xs = true := by rw [isFzs_eq, List.all_eq_true]; exact fun z hz => pkH_fz (h z hz)
  have f2 : isFzs ys = true := by rw [isFzs_eq, List.all_eq_true]; exact fun z hz => pkH_fz (k z hz)
  have g1 := frzs_of f1; have g2 := frzs_of f2
  clear h k
  have z : ∀ a b c d : D, List.zipWith pairD [a, b] [c, d] = [.tup [a, c], .tup [b, d]] := fun _ _ _ _ => rfl
  have al : allD [.lst false [.bl true, .bl true]] = .ok (.bl true) := rfl
  have e3 := e1 false false; have e4 := e2 false false
  clear e1 e2
  apply wR_get
  rw [H__law_sameH.h (sem := sem)]
  unfold b__law_sameH
  nofun
theorem F_lsides [H__law_sides sem] (n : Nat) {S : Shp} (h : S.Ok s) (hk : S.k ≤ 2) : sem (n + 1) 73 [S.d] = .ok (.lst true (sidesD S), []) := by
  apply wR_get
  rw [H__law_sides.h (sem := sem)]
  unfold b__law_sides
  have f1 := S.d_fz; have f2 := S.d_frz; have f3 := S.d_fz1; have f4 := S.d_frz1
  have hA := h.cor; have hL := h.lfew; have hN := h.lne; have hF := h.few
  rcases S with ⟨k, ls⟩
  dsimp only at hA hL hN hF hk
  have fin : ∀ (kd : PySem.Str) (b : Bool) (Q : D × List D → Prop), eqD (.str kd) (.str ("points" : PySem.Str)) = .ok (.bl false) → eqD (.str kd) (.str ("patch" : PySem.Str)) = .ok (.bl b) → (b = true ↔ 2 ≤ k) → Q (.lst true (ls.flatMap (lineD k)), []) →
      wR (fnRun 4 [false] (b__law_sides (sem n)) [.tup [.str kd, .tup (ls.map .tup)]]) Q := by
    intro kd b Q hkd hkp hb hQ
    unfold b__law_sides
    nofun
    refine w_loop (fun i ds => ∃ s2 s3, ds = [.lk (.tup [.str kd, .tup (ls.map .tup)]), .own (.lst true ((ls.take i).flatMap (lineD k))), s2, s3]) (j := 0) ⟨_, _, rfl⟩ (fun i x ds hx2 hI => ?_) (fun ds hI => ?_)
    · obtain ⟨s2, s3, rfl⟩ := hI
      rw [Nat.zero_add] at *
      rw [List.getElem?_map] at hx2
      obtain ⟨l, hl, rfl⟩ := Option.map_eq_some_iff.mp hx2
      have hm := List.mem_of_getElem? hl
      have hfz := cors_fz (hA l hm)
      have hfr := frzs_of hfz
      have e := flatMap_take (f := lineD k) hl
      have l1 := flatMap_len (k := k) (ls := ls.take i) (m := 100) fun x hx => hL x (List.mem_of_mem_take hx)
      have l2 : (ls.take i).length ≤ 100 := by rw [List.length_take]; omega
      have l3 := hL l hm
      have hln := hN l hm
      have hlp := List.length_pos_iff.mpr hln
      have ln : lenD [.tup l] = .ok (.int l.length) := rfl
      generalize hP : (ls.take i).flatMap (lineD k) = P at *
      clear hx2
      nofun
      refine ⟨by omega, ?_⟩
      refine w_loop (fun j ds => ∃ s3, ds = [.lk (.tup [.str kd, .tup (ls.map .tup)]), .own (.lst true (P ++ (List.zipWith pairD l l.tail).take j)), .own (.tup l), s3]) (j := 0) ⟨s3, by simp⟩ (fun j x ds hx hI => ?_) (fun ds hI => ?_)
      · obtain ⟨s3, rfl⟩ := hI
        obtain ⟨hj, rfl⟩ := rangeL_get hx
        rw [Nat.zero_add] at *
        have hj1 : j < l.length := by omega
        have hj2 : j + 1 < l.length := by omega
        have g1 : atI l (1 + (j : Int) - 1) = some l[j] := by
          have := at_n (xs := l) (n := j)
          rw [show (1 + (j : Int) - 1) = (j : Int) by omega, this]; simp [hj1]
        have g2 : atI l (1 + (j : Int)) = some l[j + 1] := by
          have := at_n (xs := l) (n := j + 1)
          rw [show (1 + (j : Int)) = ((j + 1 : Nat) : Int) by omega, this]; simp [hj2]
        have ez : (List.zipWith pairD l l.tail)[j]? = some (pairD l[j] l[j + 1]) := by
          rw [List.getElem?_zipWith]; simp [hj1, hj2]
        have c1 := hA l hm l[j] (List.getElem_mem hj1)
        have c2 := hA l hm l[j + 1] (List.getElem_mem hj2)
        generalize l[j] = p at *
        generalize l[j + 1] = q at *
        have tk : (List.zipWith pairD l l.tail).take (j + 1) = (List.zipWith pairD l l.tail).take j ++ [pairD p q] := by rw [List.take_add_one, ez]; rfl
        have p1 := c1.fz; have p2 := frz_of p1; have p3 := fz1_of p1; have p4 := frz1_of p1
        have q1 := c2.fz; have q2 := frz_of q1; have q3 := fz1_of q1; have q4 := frz1_of q1
        have tl : ((List.zipWith pairD l l.tail).take j).length ≤ 100 := by rw [List.length_take, List.length_zipWith]; omega
        clear hx hj ez
        nofun
        exact ⟨by rw [List.length_append]; unfold sizeLine; omega, _, by rw [List.append_assoc]; rfl⟩
      · obtain ⟨s3, rfl⟩ := hI
        rw [Nat.zero_add] at *
        have zl : (List.zipWith pairD l l.tail).length ≤ 100 := by rw [List.length_zipWith]; omega
        have te : (List.zipWith pairD l l.tail).take (rangeL 1 ((l.length : Int) - 1).toNat).length = List.zipWith pairD l l.tail := by
          apply List.take_of_length_le
          rw [List.length_zipWith, List.length_tail]
          simp [rangeL]
        rw [te]
        cases b with
        | false =>
          have hk2 : ¬ 2 ≤ k := fun z => Bool.noConfusion (hb.mpr z)
          have e5 : lineD k l = List.zipWith pairD l l.tail := by unfold lineD; rw [if_neg hk2, List.append_nil]
          rw [e5] at e
          nofun
          exact ⟨_, _, rfl⟩
        | true =>
          have hk2 : 2 ≤ k := hb.mp rfl
          obtain ⟨z, ez, hz, ez2⟩ := at_last (xs := l) hlp
          obtain ⟨a, ea⟩ : ∃ a, l[0]? = some a := ⟨l[0]'hlp, by simp [hlp]⟩
          have ga : atI l ((l.length : Int) - 1) = some z := by
            have := at_n (xs := l) (n := l.length - 1)
            rw [show ((l.length - 1 : Nat) : Int) = (l.length : Int) - 1 by omega] at this
            rw [this, ez2]
          have e5 : lineD k l = List.zipWith pairD l l.tail ++ [.tup [z, a]] := by
            unfold lineD
            rw [if_pos hk2, List.getLast?_eq_getElem?, ez2, List.head?_eq_getElem?, ea]
            rfl
          rw [e5] at e
          have z1 := (hA l hm z hz).fz; have z2 := frz_of z1
          have a1 := (hA l hm a (List.mem_of_getElem? ea)).fz; have a2 := frz_of a1
          have e6 : (List.take (i + 1) ls).flatMap (lineD k) = P ++ List.zipWith pairD l l.tail ++ [.tup [z, a]] := by rw [e, List.append_assoc]
          clear e e5
          nofun
          exact ⟨by rw [List.length_append]; unfold sizeLine; omega, _, _, rfl⟩
    · obtain ⟨s2, s3, rfl⟩ := hI
      rw [Nat.zero_add, List.length_map, List.take_length]
      nofun
  match k, hk with
  | 0, _ =>
    obtain ⟨l, rfl⟩ := List.length_eq_one_iff.mp (h.one rfl)
    unfold Shp.d
    nofun
    rfl
  | 1, _ => exact fin ("rows" : PySem.Str) false _ kd_rp kd_rt (by simp) rfl
  | 2, _ => exact fin ("patch" : PySem.Str) true _ kd_tp kd_tt (by simp) rfl
end Vd
end
section
namespace Vd
open PySem L2
variable {sem : Nat → CE} {s u : Nat} {x y : D}
local macro_rules | `(tactic| and_intros) => `(tactic| simp only [kd_pp, kd_rp, kd_tp, kd_pt, kd_rt, kd_tt, frzs_tups, isFzs_tups, neB, beq_tt, beq_ff, beq_tf, beq_ft, lp0, lp1, w_CallB, g_CBoo, g_CBol, g_CBlo, atom_bl, emp_nil, w_ForMv, g_FM, wR_ok, wR_bind, w_C, w_Var, g_Var1, g_Var2, w_Mv, g_Mv1, g_Mv2, w_End, w_ov, w_op, g_Op1, g_Op2, w_oz, g_Oz1, g_Oz2, w_1, w_2, w_Not, w_Isi, w_Isi2, w_Ops0, w_Ops1, w_Tup, w_N, w_Sl, w_noPart, w_aPart, k_Part, w_Chain, isB_bl, cIf_t, cIf_f, cIf_n, w_ChainE, w_If, w_And, w_Or, w_Tru, w_Val, w_BAnd, w_BOr, w_BNot, w_BYes, w_Nil, w_Br, w_Ct, g_nx, g_br, g_ct, g_rt, w_Seq, w_SIf, w_Ret, w_Drop, w_Set, g_Set, g_Tup1, g_Tup2, g_All0, g_All1, isI_int, g_Item, q_Item, w_Q0, w_Q1, w_Lst, w_Par, w_Mut, g_Mu1, g_Mu2, v_append, k_Ext, w_Ext, g_Ex1, g_Ex2, w_Call, w_Args0, w_Args1, w_Args2, g_Ar, k_Call, w_As0, w_As1, w_As2, g_As, putm0, putm1, putm2, w_O0, w_O1, w_O2, q_rt, q_nx, w_fn, slots0, slots1, slots2, aft_nx, aft_ct, aft_br, aft_rt, w_sO0, w_sO1, w_sv, w_sp, g_Sp1, g_Sp2, w_sz, g_Sz1, g_Sz2, w_For, k_For, w_Lc, w_eO0, w_eO1, w_ev, w_ep, w_ez, k_Lc, v_add, v_addL, v_addT, v_sub, v_mul, v_fdiv, v_mod, v_pow, v_neg, v_lt, v_le, v_gt, v_ge, shp_int, shp_bl, shp_non, v_eq, v_ne, v_eqB, g_Ix, v_ixL, v_ixT, g_X, v_idx, v_lenL, v_lenT, v_abs, v_max, v_min, v_tup, v_list, v_listT, v_tuple, v_tupleT, v_slL, v_slT, v_truB, v_truI, v_truT, v_truL, v_truN, v_itL, v_itT, v_r1, v_r2, v_isB, v_isN, v_isntN, List.getElem?_cons_zero, List.getElem?_cons_succ, List.set_cons_zero, List.set_cons_succ, List.length_cons, List.length_nil, List.cons_append, List.nil_append, List.append_nil, List.replicate_succ, List.replicate_zero, D.frz, frzs, D.isFz, isFzs, dwipe, restore, relk, Bool.and_true, Bool.true_and, Bool.and_false, Bool.false_and, Bool.or_true, Bool.true_or, Bool.or_false, Bool.false_or, Bool.not_true, Bool.not_false, and_true, true_and, at_of, ix_of, frzs_ints, isFzs_ints, List.length_map, Int.toNat_natCast, ↓reduceIte, Nat.reduceAdd, Nat.reduceSub, Nat.reduceLT, Nat.reduceLeDiff, Int.reduceLT, Int.reduceLE, Int.reduceEq, Int.reduceAdd, Int.reduceSub, Int.reduceMul, Int.reduceNeg, Int.reduceToNat, Int.reducePow, Int.reduceBNe, Int.reduceBEq, reduceCtorEq, mulOk_l, mulOk_r, fdivOk_s, modOk_p, powOk_s, cast_of, small_le, small_lt, filt_yes, frzs_bls, v_anyB, v_allB, cutL_map, c_isIntDN, c_isIntDB, c_isIntDI, c_isIntDS, c_isIntDT, c_isIntDL, c_isBoolDN, c_isBoolDB, c_isBoolDI, c_isBoolDS, c_isBoolDT, c_isBoolDL, c_isStrDN, c_isStrDB, c_isStrDI, c_isStrDS, c_isStrDT, c_isStrDL, c_isTupDN, c_isTupDB, c_isTupDI, c_isTupDS, c_isTupDT, c_isTupDL, c_isLstDN, c_isLstDB, c_isLstDI, c_isLstDS, c_isLstDT, c_isLstDL, c_D_isNonN, c_D_isNonB, c_D_isNonI, c_D_isNonS, c_D_isNonT, c_D_isNonL, c_frz1N, c_isFz1N, c_frz1B, c_isFz1B, c_frz1I, c_isFz1I, c_frz1S, c_isFz1S, c_frz1T, c_isFz1T, c_frz1L, c_isFz1L, v_zip, v_zipT, v_enum, v_minI, v_maxI, v_minT, v_maxT, w_CallO, w_AugI, g_Aug, intAt1, intAt2, v_int, v_intB, v_extT, v_extL, okArgs0, okArgs1, okArgs2, w_Idx, k_Idx, v_reverse, v_insert, decide_true, decide_false, Bool.and_self])
local macro_rules | `(tactic| nofun) => `(tactic| simp only [kd_pp, kd_rp, kd_tp, kd_pt, kd_rt, kd_tt, frzs_tups, isFzs_tups, neB, beq_tt, beq_ff, beq_tf, beq_ft, lp0, lp1, w_CallB, g_CBoo, g_CBol, g_CBlo, atom_bl, emp_nil, w_ForMv, g_FM, wR_ok, wR_bind, w_C, w_Var, g_Var1, g_Var2, w_Mv, g_Mv1, g_Mv2, w_End, w_ov, w_op, g_Op1, g_Op2, w_oz, g_Oz1, g_Oz2, w_1, w_2, w_Not, w_Isi, w_Isi2, w_Ops0, w_Ops1, w_Tup, w_N, w_Sl, w_noPart, w_aPart, k_Part, w_Chain, isB_bl, cIf_t, cIf_f, cIf_n, w_ChainE, w_If, w_And, w_Or, w_Tru, w_Val, w_BAnd, w_BOr, w_BNot, w_BYes, w_Nil, w_Br, w_Ct, g_nx, g_br, g_ct, g_rt, w_Seq, w_SIf, w_Ret, w_Drop, w_Set, g_Set, g_Tup1, g_Tup2, g_All0, g_All1, isI_int, g_Item, q_Item, w_Q0, w_Q1, w_Lst, w_Par, w_Mut, g_Mu1, g_Mu2, v_append, k_Ext, w_Ext, g_Ex1, g_Ex2, w_Call, w_Args0, w_Args1, w_Args2, g_Ar, k_Call, w_As0, w_As1, w_As2, g_As, putm0, putm1, putm2, w_O0, w_O1, w_O2, q_rt, q_nx, w_fn, slots0, slots1, slots2, aft_nx, aft_ct, aft_br, aft_rt, w_sO0, w_sO1, w_sv, w_sp, g_Sp1, g_Sp2, w_sz, g_Sz1, g_Sz2, w_For, k_For, w_Lc, w_eO0, w_eO1, w_ev, w_ep, w_ez, k_Lc, v_add, v_addL, v_addT, v_sub, v_mul, v_fdiv, v_mod, v_pow, v_neg, v_lt, v_le, v_gt, v_ge, shp_int, shp_bl, shp_non, v_eq, v_ne, v_eqB, g_Ix, v_ixL, v_ixT, g_X, v_idx, v_lenL, v_lenT, v_abs, v_max, v_min, v_tup, v_list, v_listT, v_tuple, v_tupleT, v_slL, v_slT, v_truB, v_truI, v_truT, v_truL, v_truN, v_itL, v_itT, v_r1, v_r2, v_isB, v_isN, v_isntN, List.getElem?_cons_zero, List.getElem?_cons_succ, List.set_cons_zero, List.set_cons_succ, List.length_cons, List.length_nil, List.cons_append, List.nil_append, List.append_nil, List.replicate_succ, List.replicate_zero, D.frz, frzs, D.isFz, isFzs, dwipe, restore, relk, Bool.and_true, Bool.true_and, Bool.and_false, Bool.false_and, Bool.or_true, Bool.true_or, Bool.or_false, Bool.false_or, Bool.not_true, Bool.not_false, and_true, true_and, at_of, ix_of, frzs_ints, isFzs_ints, List.length_map, Int.toNat_natCast, ↓reduceIte, Nat.reduceAdd, Nat.reduceSub, Nat.reduceLT, Nat.reduceLeDiff, Int.reduceLT, Int.reduceLE, Int.reduceEq, Int.reduceAdd, Int.reduceSub, Int.reduceMul, Int.reduceNeg, Int.reduceToNat, Int.reducePow, Int.reduceBNe, Int.reduceBEq, reduceCtorEq, mulOk_l, mulOk_r, fdivOk_s, modOk_p, powOk_s, cast_of, small_le, small_lt, filt_yes, frzs_bls, v_anyB, v_allB, cutL_map, c_isIntDN, c_isIntDB, c_isIntDI, c_isIntDS, c_isIntDT, c_isIntDL, c_isBoolDN, c_isBoolDB, c_isBoolDI, c_isBoolDS, c_isBoolDT, c_isBoolDL, c_isStrDN, c_isStrDB, c_isStrDI, c_isStrDS, c_isStrDT, c_isStrDL, c_isTupDN, c_isTupDB, c_isTupDI, c_isTupDS, c_isTupDT, c_isTupDL, c_isLstDN, c_isLstDB, c_isLstDI, c_isLstDS, c_isLstDT, c_isLstDL, c_D_isNonN, c_D_isNonB, c_D_isNonI, c_D_isNonS, c_D_isNonT, c_D_isNonL, c_frz1N, c_isFz1N, c_frz1B, c_isFz1B, c_frz1I, c_isFz1I, c_frz1S, c_isFz1S, c_frz1T, c_isFz1T, c_frz1L, c_isFz1L, v_zip, v_zipT, v_enum, v_minI, v_maxI, v_minT, v_maxT, w_CallO, w_AugI, g_Aug, intAt1, intAt2, v_int, v_intB, v_extT, v_extL, okArgs0, okArgs1, okArgs2, w_Idx, k_Idx, v_reverse, v_insert, decide_true, decide_false, Bool.and_self, *])
def b_law05 (C : CE) : SS :=
  sSeq (sSet (gSet 1) (rCall C 38 [.vw (oz 0)])) (sSeq (sFor [.v (rC (.int 10))] range1D (gSet 2) (sSeq (sSet (gSet 3) (rCall C 64 [.mu 1])) (sSeq (sSet (gSet 4) (rLst [rCall C 73 [.vw (oz 3)], rCall C 74 [.vw (ov (rCall C 67 [.vw (oz 3)]))]])) (sFor [.v (rC (.int 2))] range1D (gSet 5) (sSeq (sSet (gSet 6) (rLst [rCall C 70 [.vw (oz 3)], rCall C 329 [.vw (oz 3)]])) (sSeq (sIf (bNot (bTru (ov (rCallB C 72 6 4)))) (sRet (rC (.bl false))) (sNil)) (sForMv 6 (gSet 7) (sSeq (sDrop (rMut 7 appendF [rC (.str ("more" : PySem.Str))])) (sDrop (rMut 7 reverseF [])))))))))) (sRet (rC (.bl true))))
class H_law05 (sem : Nat → CE) : Prop where
  h : ∀ (n : Nat) (args : List D), sem (n + 1) 334 args = fnRun 8 [false] (b_law05 (sem n)) args

theorem F_corners2 [H_lines_in sem] [H_all_corners sem] [H_greatest_in_both sem] [H_top_of sem] [H_below_of sem] [H_common_below sem] [H_common_of_corners sem] [H_whole_by sem] [H_whole_corner sem] [H_sorted_corners sem] [H_each_once sem] [H_corners_in sem] [H__law_split sem] [H__law_less sem] [H__law_ahead sem] [H__law_put_in sem]
    (n : Nat) {S : Shp} (h : S.Ok s) (h0 : 0 < s) (hs : s * (2 * S.ls.flatten.length) + 1 + s ≤ 8000) (hl : S.ls.flatten.length ≤ 1000) :
    ∃ zs, sem (n + 5) 329 [S.d] = .ok (.lst true zs, []) ∧ (∀ m, sem (m + 4) 74 [.lst false S.ls.flatten] = .ok (.lst true zs, [])) ∧ (∀ c ∈ zs, Cor s c) ∧ zs.length ≤ S.ls.flatten.length := by
  have hA := h.all
  have e1 := F_all (sem := sem) (n + 2) h
  obtain ⟨L, C, e2⟩ := F_sorted (sem := sem) n (o := false) hA h0 hs hl
  have hm : ∀ c, c ∈ S.ls.flatten.mergeSort (fun a b => decide (lxle (wc L a) (wc L b))) ↔ c ∈ S.ls.flatten := fun c => List.mem_mergeSort
  obtain ⟨zs, e3, a3, l3, m3⟩ := F_once (sem := sem) (n + 3) (o := false) (ys := S.ls.flatten.mergeSort fun a b => decide (lxle (wc L a) (wc L b))) (fun c hc => hA c ((hm c).mp hc)) (sort_ris (wc L) S.ls.flatten) (fun a ha b hb e => wc_inj C hA ((hm a).mp ha) ((hm b).mp hb) e) (by rw [List.length_mergeSort]; exact hl)
  have e4 : ∀ m, sem (m + 4) 74 [.lst false S.ls.flatten] = .ok (.lst true zs, []) := fun m => by
    obtain ⟨ws, e4, a4, m4⟩ := F_put_in (sem := sem) m (o := false) C hA h0 (by omega) hl
    have ew : ws = zs := asc_ext a4 a3 fun c => by rw [m4, m3, hm]
    rw [← ew]; exact e4
  rw [List.length_mergeSort] at l3
  have hfz := cors_fz hA
  have hfr := frzs_of hfz
  have hf2 := frzs_of (cors_fz (xs := S.ls.flatten.mergeSort fun a b => decide (lxle (wc L a) (wc L b))) fun c hc => hA c ((hm c).mp hc))
  have f1 := S.d_fz; have f2 := S.d_frz; have f3 := S.d_fz1; have f4 := S.d_frz1
  refine ⟨zs, ?_, e4, fun c hc => hA c ((hm c).mp ((m3 c).mp hc)), l3⟩
  clear m3 hm e4 a3 C
  generalize S.ls.flatten.mergeSort (fun a b => decide (lxle (wc L a) (wc L b))) = ys at *
  generalize S.ls.flatten = cs at *
  generalize S.d = SD at *
  clear h hA
  apply wR_get
  rw [H_corners_in.h (sem := sem)]
  unfold b_corners_in
  nofun
theorem side_pk {c d : D} (hc : Cor s c) (hd : Cor s d) : (pairD c d).pkH 3 = true := by
  unfold pairD
  rw [D.pkH]
  simp [pksH, hc.pkH, hd.pkH]
theorem sides_pk {S : Shp} (h : S.Ok s) : ∀ x ∈ sidesD S, x.pkH 3 = true := fun x hx => by
  unfold sidesD at hx
  split at hx
  · cases hx
  · obtain ⟨l, hl, hx⟩ := List.mem_flatMap.mp hx
    have hA := h.cor l hl
    have hN := h.lne l hl
    unfold lineD at hx
    rcases List.mem_append.mp hx with hx | hx
    · obtain ⟨a, b, rfl, ha, hb⟩ := zip_mem hx
      exact side_pk (hA a ha) (hA b (List.mem_of_mem_tail hb))
    · split at hx
      · rw [List.mem_singleton.mp hx]
        cases l with
        | nil => exact absurd rfl hN
        | cons z r =>
          rw [List.getLast?_eq_some_getLast hN]
          exact side_pk (hA _ (List.getLast_mem hN)) (hA z List.mem_cons_self)
      · cases hx
theorem sides_few {S : Shp} (h : S.Ok s) (h8 : S.ls.length ≤ 8) : (sidesD S).length ≤ 808 := by
  unfold sidesD
  split
  · exact Nat.zero_le _
  · have := flatMap_len (k := S.k) (ls := S.ls) (m := 100) fun l hl => h.lfew l hl
    omega
theorem PatchOf.small5 {rs : List (List P2)} {T : Aff} {ls : List (List D)} (h : PatchOf rs T ls) : ls.length ≤ 8 ∧ ∀ l ∈ ls, l.length ≤ 12 := by
  obtain ⟨e1, e2, e3⟩ := rings_small rs h.rings
  refine ⟨by rw [h.len]; exact e2, fun l hl => ?_⟩
  obtain ⟨i, hi⟩ := List.getElem?_of_mem hl
  have hi2 : i < rs.length := by
    rcases Nat.lt_or_ge i ls.length with k | k
    · rw [← h.len]; exact k
    · rw [List.getElem?_eq_none k] at hi; cases hi
  have hr : rs[i]? = some rs[i] := by simp [hi2]
  have h3 := (e3 _ (List.getElem_mem hi2)).2.1
  have h4 := (h.each i _ l hr hi).mem.2
  rw [List.length_map] at h4
  omega
theorem D_shapeH [H__law_draw sem] [H__law_both sem] [H__law_part sem] [H__law_split sem] [H__law_beside sem] [H__law_number sem] [H__law_span sem] [H__law_corner sem] [H__law_points sem] [H__law_row sem] [H__law_rows sem] [H__law_rings sem] [H__law_patch sem] [H__law_shape sem] {n m : Nat} {h : D} {Q : D × List D → Prop} (hh : Hnd m h) (hn : m < 2 ^ 57)
    (k : ∀ (S : Shp) h', S.Ok 34 → S.k ≤ 2 → S.ls.length ≤ 8 → S.ls.flatten.length ≤ 96 → Hnd (m + 600) h' → Q (S.d, [h'])) : wR (sem (n + 7) 64 [h]) Q := by
  rw [H__law_shape.h (sem := sem)]
  unfold b__law_shape
  nofun
  have fl : ∀ ls : List (List D), ls.length ≤ 8 → (∀ l ∈ ls, l.length ≤ 12) → ls.flatten.length ≤ 96 := fun ls a b => by
    have := flatten_len b
    omega
  refine D_span hh (by omega) fun sp h1 s0 s1 hh => ?_
  nofun
  refine D_draw hh (by omega) (by omega) (by omega) fun q1 h1 a1 b1 hh => ?_
  nofun
  refine cIf_split (fun hq => ?_) fun hq => ?_
  · nofun
    refine D_draw hh (by omega) (by omega) (by omega) fun q2 h2 a2 b2 hh => ?_
    nofun
    refine gIx_all a2 (by exact b2) ?_
    have two : ∀ (R : D → Prop), (∀ w : Int, 1 ≤ w → w ≤ 12 → R (.int w)) → ∀ x ∈ [D.int 4, D.int 12], R x := by
      intro R hR
      simp only [List.forall_mem_cons]
      exact ⟨hR _ (by omega) (by omega), hR _ (by omega) (by omega), nofun⟩
    refine two _ fun w w0 w1 => ?_
    nofun
    refine D_points hh (by omega) s0 s1 w0 w1 fun cs h3 hc h1 h2 h3 hh => ?_
    nofun
    have e : (Shp.mk 0 [cs]).d = .tup [.str ("points" : PySem.Str), .tup cs] := by unfold Shp.d; simp
    rw [← e]
    refine k _ _ ⟨fun _ => rfl, by simp, by simp, fun l hl => ?_, fun l hl => ?_, fun l hl c hcl => ?_⟩ (by show 0 ≤ 2; omega) (by simp) (by simp; omega) (hh.mono (by omega))
    · rw [List.mem_singleton.mp hl]; exact h1
    · rw [List.mem_singleton.mp hl]; omega
    · rw [List.mem_singleton.mp hl] at hcl; exact (hc c hcl).mono (by omega)
  · nofun
    refine cIf_split (fun hq => ?_) fun hq => ?_
    · nofun
      refine D_draw hh (by omega) (by omega) (by omega) fun q2 h2 a2 b2 hh => ?_
      nofun
      refine gIx_all a2 (by exact b2) ?_
      have two : ∀ (R : D → Prop), (∀ v w : Int, 2 ≤ v → v ≤ 9 → 1 ≤ w → w ≤ 8 → R (.tup [.int v, .int w])) → ∀ x ∈ [D.tup [D.int 3, D.int 2], D.tup [D.int 9, D.int 2], D.tup [D.int 3, D.int 8], D.tup [D.int 4, D.int 7]], R x := by
        intro R hR
        simp only [List.forall_mem_cons]
        exact ⟨hR _ _ (by omega) (by omega) (by omega) (by omega), hR _ _ (by omega) (by omega) (by omega) (by omega), hR _ _ (by omega) (by omega) (by omega) (by omega), hR _ _ (by omega) (by omega) (by omega) (by omega), nofun⟩
      refine two _ fun v w v0 v1 w0 w1 => ?_
      nofun
      refine D_rows hh (by omega) s0 s1 v0 v1 w0 w1 fun ls h3 n1 n2 n3 hh => ?_
      nofun
      refine k ⟨1, ls⟩ _ ⟨nofun, n1, by show ls.length ≤ 100; omega, fun l hl e => ?_, fun l hl => ?_, fun l hl => (n3 l hl).cor⟩ (by show 1 ≤ 2; omega) n2 (fl ls n2 fun l hl => (n3 l hl).few) (hh.mono (by omega))
      · have := (n3 l hl).two
        subst e
        simp at this
      · have := (n3 l hl).few
        omega
    · nofun
      have fin : ∀ rs T ls h', PatchOf rs T ls → Hnd (m + 1 + 1 + 21) h' → Q (.tup [.str ("patch" : PySem.Str), .tup (ls.map .tup)], [h']) := fun rs T ls h' hp hh => k ⟨2, ls⟩ _ hp.ok (by show 2 ≤ 2; omega) hp.small5.1 (fl ls hp.small5.1 hp.small5.2) (hh.mono (by omega))
      by_cases hsp : (900 : Int) < sp
      · nofun
        refine D_patch hh (by omega) (by omega) (by omega) fun rs T ls h3 hp hh => ?_
        have := fin rs T ls h3 hp hh
        nofun
      · nofun
        refine D_patch hh (by omega) (by omega) (by omega) fun rs T ls h3 hp hh => ?_
        have := fin rs T ls h3 hp hh
        nofun
theorem F_law05 [H_greatest_in_both sem] [H_top_of sem] [H_below_of sem] [H_common_below sem] [H_whole_by sem] [H_lines_in sem] [H_all_corners sem] [H_sides_in sem] [H_whole_corner sem] [H_common_of_corners sem] [H_sorted_corners sem] [H_each_once sem] [H_corners_in sem] [H__law_hand sem] [H__law_draw sem] [H__law_both sem] [H__law_part sem] [H__law_split sem] [H__law_number sem] [H__law_span sem] [H__law_corner sem] [H__law_points sem] [H__law_beside sem] [H__law_row sem] [H__law_rows sem] [H__law_rings sem] [H__law_patch sem] [H__law_shape sem] [H__law_less sem] [H__law_ahead sem] [H__law_corners sem] [H__law_sameH sem] [H__law_sides sem] [H__law_put_in sem] [H_law05 sem]
    (n : Nat) (ns : List Int) (hl : ns.length ≤ 63) : sem (n + 8) 334 [.lst false (ns.map .int)] = .ok (.bl true, []) := by
  apply wR_get
  rw [H_law05.h (sem := sem)]
  unfold b_law05
  obtain ⟨h0, e0, hh⟩ := D_hand (sem := sem) (n + 6) ns
  have fs : isFzs (ns.map D.int) = true := by rw [isFzs_eq, List.all_map, List.all_eq_true]; exact fun _ _ => rfl
  nofun
  refine w_loop (fun i ds => ∃ hd s2 s3 s4 s5 s6 s7, ds = [.lk (.lst false (ns.map .int)), .own hd, s2, s3, s4, s5, s6, s7] ∧ Hnd (700 * i) hd) (j := 0) ⟨_, _, _, _, _, _, _, rfl, hh⟩ (fun i x ds hx hI => ?_) (fun ds hI => ?_)
  · obtain ⟨hd, s2, s3, s4, s5, s6, s7, rfl, hh⟩ := hI
    obtain ⟨hi, rfl⟩ := rangeL_get hx
    rw [Nat.zero_add] at *
    have hi8 : i < 10 := by omega
    clear hx hi e0
    nofun
    refine D_shapeH (n := n) hh (by omega) fun S h1 hS hk h8 h96 hh => ?_
    have f1 := S.d_fz; have f2 := S.d_frz; have f3 := S.d_fz1; have f4 := S.d_frz1
    have e1 := F_lsides (sem := sem) (n + 6) hS hk
    have e2 := F_corners (sem := sem) (n + 6) hS
    have e3 := F_sides (sem := sem) (n + 5) hS hk
    obtain ⟨zs, e4, e5, hz, lz⟩ := F_corners2 (sem := sem) (n + 2) hS (by omega) (by omega) (by omega)
    have e6 := e5 (n + 3)
    have e7 := H_sameLL (sem := sem) (n + 1) 3 (o := false) (p := false) (sides_pk hS) (fun c hc => (hz c hc).pkH) (by have := sides_few hS h8; omega) (by omega)
    have ls := sides_few hS h8
    have sf : isFzs (sidesD S) = true := by rw [isFzs_eq, List.all_eq_true]; exact fun z hz => pkH_fz (sides_pk hS z hz)
    have sr := frzs_of sf
    have zf := cors_fz hz
    have zr := frzs_of zf
    have cf := cors_fz hS.all
    have cr := frzs_of cf
    clear hS hz e5 hk
    generalize S.ls.flatten = cs at *
    generalize sidesD S = sd at *
    generalize S.d = SD at *
    nofun
    refine w_loop (fun j ds => ∃ s5 s6 s7, ds = [.lk (.lst false (ns.map .int)), .own h1, .own (.int (0 + (i : Int))), .own SD, .own (.lst true [.lst true sd, .lst true zs]), s5, s6, s7]) (j := 0) ⟨_, _, _, rfl⟩ (fun j x ds hx hI => ?_) (fun ds hI => ?_)
    · obtain ⟨s5, s6, s7, rfl⟩ := hI
      obtain ⟨hj, rfl⟩ := rangeL_get hx
      clear hx hj
      nofun
      exact ⟨by unfold sizeLine; omega, by unfold sizeLine; omega, _, _, _, rfl⟩
    · obtain ⟨s5, s6, s7, rfl⟩ := hI
      nofun
      refine ⟨h1, _, _, _, _, _, _, rfl, hh.mono (by omega)⟩
  · obtain ⟨hd, s2, s3, s4, s5, s6, s7, rfl, hh⟩ := hI
    nofun
end Vd
end
section
namespace VdL
open PySem L2 Vd
instance : Vd.H_greatest_in_both sem := ⟨fun _ _ => rfl⟩
instance : Vd.H_top_of sem := ⟨fun _ _ => rfl⟩
instance : Vd.H_below_of sem := ⟨fun _ _ => rfl⟩
instance : Vd.H_common_below sem := ⟨fun _ _ => rfl⟩
instance : Vd.H_whole_by sem := ⟨fun _ _ => rfl⟩
instance : Vd.H_lines_in sem := ⟨fun _ _ => rfl⟩
instance : Vd.H_all_corners sem := ⟨fun _ _ => rfl⟩
instance : Vd.H_sides_in sem := ⟨fun _ _ => rfl⟩
instance : Vd.H_whole_corner sem := ⟨fun _ _ => rfl⟩
instance : Vd.H_common_of_corners sem := ⟨fun _ _ => rfl⟩
instance : Vd.H_sorted_corners sem := ⟨fun _ _ => rfl⟩
instance : Vd.H_each_once sem := ⟨fun _ _ => rfl⟩
instance : Vd.H_corners_in sem := ⟨fun _ _ => rfl⟩
instance : Vd.H__law_hand sem := ⟨fun _ _ => rfl⟩
instance : Vd.H__law_draw sem := ⟨fun _ _ => rfl⟩
instance : Vd.H__law_both sem := ⟨fun _ _ => rfl⟩
instance : Vd.H__law_part sem := ⟨fun _ _ => rfl⟩
instance : Vd.H__law_split sem := ⟨fun _ _ => rfl⟩
instance : Vd.H__law_number sem := ⟨fun _ _ => rfl⟩
instance : Vd.H__law_span sem := ⟨fun _ _ => rfl⟩
instance : Vd.H__law_corner sem := ⟨fun _ _ => rfl⟩
instance : Vd.H__law_points sem := ⟨fun _ _ => rfl⟩
instance : Vd.H__law_beside sem := ⟨fun _ _ => rfl⟩
instance : Vd.H__law_row sem := ⟨fun _ _ => rfl⟩
instance : Vd.H__law_rows sem := ⟨fun _ _ => rfl⟩
instance : Vd.H__law_rings sem := ⟨fun _ _ => rfl⟩
instance : Vd.H__law_patch sem := ⟨fun _ _ => rfl⟩
instance : Vd.H__law_shape sem := ⟨fun _ _ => rfl⟩
instance : Vd.H__law_less sem := ⟨fun _ _ => rfl⟩
instance : Vd.H__law_ahead sem := ⟨fun _ _ => rfl⟩
instance : Vd.H__law_corners sem := ⟨fun _ _ => rfl⟩
instance : Vd.H__law_sameH sem := ⟨fun _ _ => rfl⟩
instance : Vd.H__law_sides sem := ⟨fun _ _ => rfl⟩
instance : Vd.H__law_put_in sem := ⟨fun _ _ => rfl⟩
instance : Vd.H_law05 sem := ⟨fun _ _ => rfl⟩

theorem s_law (ns : List Int) (hl : ns.length ≤ 63) : sem 48 334 [.lst false (ns.map .int)] = .ok (.bl true, []) := F_law05 (sem := sem) 40 ns hl
end VdL
theorem PySem.Challenge.cw_landstore_k05_sides_and_corners_holds : PySem.Challenge.rw_landstore_k05_sides_and_corners.Holds := by
  exact VdL.whole_ok fun ns hl => VdL.s_law ns hl
end
