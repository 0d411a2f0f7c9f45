import PyProof.Rows.All
import Wide.All
import OpenK.AllK
import Wide.FinOn
import KE.KStateDown
import PyProof.ExcBaseAll.ValueError
import HandS.Words
import HandS.Head0
import HandS.Head1
import HandS.Head2
import HandS.HeadEnd
import HandS.HeadHook1
import HandS.HeadHook2
import HandS.HeadHook3
import HandS.HeadHook4
import HandS.HeadWalk
import HandS.ExcCtx
import HandS.Lambda
import HandS.ForMost
import HandS.ForExc
import HandS.Wide
import HandS.Style
import HandS.Flow
import HandS.TupAny
import HandS.TupMul
import HandS.Zip
import HandS.IsInst
import HandS.Conv
import HandS.Defaults
import HandS.Deep
import HandS.More
import HandS.Dict
import HandS.SortInts
import KE.GoesEnum
import KE.GoesMore
import HandS.Remove
import KE.DataFind
import HandS.Small
import HandS.ExcOwn
import HandS.OwnIter
import KE.KDictZip
import HandS.TupSets
import HandS.CallLocal
import HandS.WordsExc
import HandS.HotCalls
import HandS.ExcIs
import HandS.Text
import PySem.Challenge.RW_sureshelves_k02_stretches_and_gaps
set_option Elab.async false
set_option linter.all false
set_option maxRecDepth 100000
set_option maxHeartbeats 4000000
/-! Rt00: what the head is asked of raised classes (ahead of all, for the head's check is the greatest piece). -/
namespace Rf
open PySem PySem.Spec PyProof.Rows L2
def nmC : List Str := ["NoHouse", "NoName", "NoColour", "NoMark", "NoAnswer", "NoSlot", "NoNumber", "NoTakes", "NoBook", "NoTints", "NoSlots", "NoShelf", "NoJoin", "NotNow", "NotFree", "Taken", "NothingLeft", "TooMany", "Wrong"]
def excCB (K : PySem.W.Frag) (D : Addr) : Bool := decide (PySem.W.findIn K (.ref D) "__getattribute__" = some (some (.builtin "BaseException.__getattribute__"))) && (decide (PySem.W.findIn K (.ref D) "__getattr__" = some none) && (decide (PySem.W.subIn K (.ref D) (.type "BaseException") = some true) &&
  (PySem.W.hasDictIn K D && (decide (PySem.W.findIn K (.ref D) "__class__" = some (some (.builtin "object.__class__"))) && (decide (PySem.W.specialIn K (.builtin "object.__class__") "__get__" = some (some (.builtin "getset_descriptor.__get__"))) &&
  (decide (PySem.W.takesIn K (.builtin "object.__class__") = some true) && decide (PySem.W.mroIn K D (.type "object") = some true)))))))
def excFB (K : PySem.W.Frag) (x : Str) : Bool := excCB K (He.ga K x) && (decide (PySem.W.kitOne K (.ref (He.ga K x)) (.type "ValueError") = some true) && ((nmC.all fun c => decide (PySem.W.kitOne K (.ref (He.ga K x)) (.ref (He.ga K c)) = some (decide (c = x)))) &&
  (decide (PySem.W.exmOne K (.ref (He.ga K x)) (.ref (He.ga K "TooMany")) = some false) && (decide (PySem.W.exmOne K (.ref (He.ga K x)) (.ref (He.ga K "Wrong")) = some false) && decide (PySem.W.exmOne K (.ref (He.ga K x)) (.ref (He.ga K "HouseError")) = some true)))))
end Rf

set_option maxRecDepth 100000
set_option maxHeartbeats 0
/-! K02r: the head's check. -/
namespace K02
open PySem PySem.Spec PyProof.Rows L2 Rf
def exs : List Str := ["NoHouse", "NoName", "NoMark"]
def top (i : Nat) : Stmt := PySem.Challenge.pw_sureshelves_k02_stretches_and_gaps.main.body.getD i (.Pass ⟨0, 0, 0, 0⟩)
abbrev dfn (i : Nat) (n : Str) : He.DefD := ⟨(n, none), n, n, defArgs (top i), defBody (top i), defScope (top i), [], []⟩
def fnL0 : List He.DefD := [dfn 22 "made", dfn 23 "less", dfn 24 "in_order", dfn 32 "is_whole", dfn 33 "is_from", dfn 34 "is_name", dfn 35 "is_mark", dfn 36 "marks_of", dfn 37 "are_slots", dfn 38 "are_colours", dfn 39 "are_takes", dfn 40 "is_shelf", dfn 42 "all_marks", dfn 41 "is_house", dfn 43 "need_house", dfn 44 "need_name", dfn 45 "need_mark", dfn 46 "all_stretches", dfn 47 "stretches", dfn 48 "gap_at", dfn 49 "slots_of", dfn 50 "gap", dfn 52 "_law_deck", dfn 53 "_law_pick", dfn 56 "_law_one", dfn 57 "_law_sort", dfn 58 "_law_same", dfn 59 "_law_made", dfn 60 "_law_less", dfn 61 "_law_rising"]
def fnL1 : List He.DefD := [dfn 62 "_law_some", dfn 63 "_law_filled", dfn 64 "_law_house", dfn 65 "_law_between", dfn 66 "_law_marks", dfn 67 "_law_parted", dfn 68 "_law_gap", dfn 69 "_law_w", dfn 70 "_law_inside", dfn 71 "_law_sums", dfn 72 "_law_sure", dfn 73 "_law_due", dfn 74 "law", dfn 54 "_law_name_of", dfn 55 "_law_try"]
def fnL : List He.DefD := fnL0 ++ fnL1
def faL0 : List He.Fa := [.glo "made", .glo "less", .glo "in_order", .glo "is_whole", .glo "is_from", .glo "is_name", .glo "is_mark", .glo "marks_of", .glo "are_slots", .glo "are_colours", .glo "are_takes", .glo "is_shelf", .glo "all_marks", .glo "is_house", .glo "need_house", .glo "need_name", .glo "need_mark", .glo "all_stretches", .glo "stretches", .glo "gap_at", .glo "slots_of", .glo "gap", .glo "_law_deck", .glo "_law_pick", .glo "_law_one", .glo "_law_sort", .glo "_law_same", .glo "_law_made", .glo "_law_less", .glo "_law_rising"]
def faL1 : List He.Fa := [.glo "_law_some", .glo "_law_filled", .glo "_law_house", .glo "_law_between", .glo "_law_marks", .glo "_law_parted", .glo "_law_gap", .glo "_law_w", .glo "_law_inside", .glo "_law_sums", .glo "_law_sure", .glo "_law_due", .glo "law", .glo "_law_name_of", .glo "_law_try", .str "LETTERS" "abcdefghijklmnopqrstuvwxyz", .int "MOST_COLOURS" 4, .int "MOST_FIGURES" 10000000000000000000000000000000000000000, .int "MOST_PASSES" 20, .int "MOST_SHELVES" 5, .int "MOST_SLOTS" 20, .free "ValueError", .free "abs", .free "all", .free "bool", .free "enumerate", .free "int", .free "isinstance", .free "len", .free "list"]
def faL2 : List He.Fa := [.free "min", .free "range", .free "set", .free "sorted", .free "str", .free "tuple", .free "zip", .glo "NoHouse", .glo "NoName", .glo "NoColour", .glo "NoMark", .glo "NoAnswer", .glo "NoSlot", .glo "NoNumber", .glo "NoTakes", .glo "NoBook", .glo "NoTints", .glo "NoSlots", .glo "NoShelf", .glo "NoJoin", .glo "NotNow", .glo "NotFree", .glo "Taken", .glo "NothingLeft", .glo "TooMany", .glo "Wrong", .glo "HouseError", .exc "NoHouse", .glo "NoHouse", .exc "NoName"]
def faL3 : List He.Fa := [.glo "NoName", .exc "NoMark", .glo "NoMark"]
def faL : List He.Fa := faL0 ++ faL1 ++ faL2 ++ faL3
def exK (K : PySem.W.Frag) : Bool := (exs.all fun x => excFB K x)
def loose0 : List PySem.Str := ["HouseError", "NoHouse", "NoName", "NoColour", "NoMark", "NoAnswer", "NoSlot", "NoNumber", "NoTakes", "NoBook", "NoTints", "NoSlots", "NoShelf", "NoJoin", "NotNow", "NotFree", "Taken", "NothingLeft", "TooMany", "Wrong", "made", "less", "in_order", "MOST_SHELVES", "MOST_SLOTS", "MOST_PASSES", "MOST_COLOURS", "MOST_FIGURES", "LETTERS", "is_whole"]
def loose1 : List PySem.Str := ["is_from", "is_name", "is_mark", "marks_of", "are_slots", "are_colours", "are_takes", "is_shelf", "is_house", "all_marks", "need_house", "need_name", "need_mark", "all_stretches", "stretches", "gap_at", "slots_of", "gap", "_law_deck", "_law_pick", "_law_name_of", "_law_try", "_law_one", "_law_sort", "_law_same", "_law_made", "_law_less", "_law_rising", "_law_some", "_law_filled"]
def loose2 : List PySem.Str := ["_law_house", "_law_between", "_law_marks", "_law_parted", "_law_gap", "_law_w", "_law_inside", "_law_sums", "_law_sure", "_law_due"]
def loose : List PySem.Str := loose0 ++ loose1 ++ loose2
abbrev R : PySem.W.OpenRow := PySem.W.OpenLaw.row PySem.Challenge.rw_sureshelves_k02_stretches_and_gaps
abbrev hk : PySem.W.Hook := He.hookX 4 faL fnL [] [("law", none)] exK
def ob (s : PySem.W.SharedT) : He.AlX := He.obsX 4 faL fnL [] [("law", none)] exK (HandSHeadRun.getT s)
theorem ob_eq (s : PySem.W.SharedT) : ob s = hk.obs s.abs := He.obsX_eq (HandSHeadRun.getT_eq s)
theorem run (w : World) : HandSHeadRun.RunEq R (PySem.W.view R.prog [74]) hk ob 8000 loose w := by
  intro os
  kernel_rfl
end K02

set_option maxRecDepth 100000
/-! Rf0: plain data D, its standing in the abstract heap, what the operators do to it. -/
namespace Rf
open PySem PySem.Spec PyProof.Rows L2

/-- plain data: what a value is worth, whatever the heap -/
inductive D where
  | non | bl (b : Bool) | int (i : Int) | str (x : Str) | tup (xs : List D) | lst (xs : List D) | dic (kvs : List (D × D)) | fn (n : Str)
  deriving Inhabited

abbrev AS := Addr → Prop

/-- a list that may be read at a, away from the addresses of S (or in the written part) -/
def LsA (K : PySem.W.Frag) (S : AS) (H : Hp) (a : Addr) (xs : List V) : Prop :=
  (¬ S a ∧ Rd H a (.lst xs)) ∨ ∃ (o : Obj) (its : Array Value) (n : Nat), K.lookup a = some o ∧ o.cls = .type "list" ∧ o.dict = none ∧ o.data = .seq its n ∧ its.size ≤ sizeLine ∧ Vals xs its.toList
theorem LsA.sq {K : PySem.W.Frag} {S : AS} {H : Hp} {a : Addr} {xs : List V} (h : LsA K S H a xs) : SqL K H a xs := by
  rcases h with ⟨_, h⟩ | h
  · exact .inl h
  · exact .inr h
theorem LsA.mono {K : PySem.W.Frag} {S S' : AS} {H : Hp} {a : Addr} {xs : List V} (h : LsA K S H a xs) (m : ∀ b, S' b → S b) : LsA K S' H a xs := by
  rcases h with ⟨n, h⟩ | h
  · exact .inl ⟨fun z => n (m _ z), h⟩
  · exact .inr h

mutual
/-- v is worth d in H, none of its lists at an address of S -/
inductive Rep (K : PySem.W.Frag) (S : AS) (H : Hp) : D → V → Prop
  | non : Rep K S H .non .non
  | bl (b : Bool) : Rep K S H (.bl b) (.bl b)
  | int (i : Int) : Rep K S H (.int i) (.int i)
  | str (x : Str) : Rep K S H (.str x) (.str x)
  | fn (n : Str) : Rep K S H (.fn n) (.ref (He.ga K n))
  | tup {a : Addr} {xs : List V} {ds : List D} : SqT K H a xs → RepL K S H ds xs → Rep K S H (.tup ds) (.ref a)
  | lst {a : Addr} {xs : List V} {ds : List D} : LsA K S H a xs → RepL K S H ds xs → Rep K S H (.lst ds) (.ref a)
inductive RepL (K : PySem.W.Frag) (S : AS) (H : Hp) : List D → List V → Prop
  | nil : RepL K S H [] []
  | cons {d : D} {ds : List D} {v : V} {vs : List V} : Rep K S H d v → RepL K S H ds vs → RepL K S H (d :: ds) (v :: vs)
end

/-- the name that a table's code objects bear -/
class TN where
  tn : Addr → Str
instance (priority := low) TN.std : TN := ⟨fun _ => ""⟩
variable [TN]
/-- a table of code objects, all of the table's name -/
def TabQ (H : Hp) (a : Addr) : Prop := ∃ ps : Array Value, H a = some (.tbl ps) ∧ TriplesOk ps.toList ∧ ∀ (pos : Pos) (cv : Value), codeAmong pos ps.toList = some cv → ∃ c, cv = .ref c ∧ H c = some (LamX.CodeO c (TN.tn a))
theorem TabQ.ext {H H' : Hp} (e : ∀ a o, H a = some o → H' a = some o) {a : Addr} (h : TabQ H a) : TabQ H' a := by
  obtain ⟨ps, h1, h2, h3⟩ := h
  refine ⟨ps, e _ _ h1, h2, fun pos cv hc => ?_⟩
  obtain ⟨c, e1, e2⟩ := h3 pos cv hc
  exact ⟨c, e1, e _ _ e2⟩
/-- what stood in H stands in H', but perhaps at the addresses of W; tables may grow -/
structure Kp (W : AS) (H H' : Hp) : Prop where
  keep : ∀ a o, H a = some o → ¬ W a → (∀ ps, o ≠ .tbl ps) → H' a = some o
  tup : ∀ a xs, H a = some (.tup xs) → H' a = some (.tup xs)
  dom : ∀ a, H a ≠ none → H' a ≠ none
  frz : ∀ a o u, H a = some (.frz o u) → H' a = some (.frz o u)
  tbl : ∀ a, TabQ H a → TabQ H' a
theorem Kp.refl (W : AS) (H : Hp) : Kp W H H := ⟨fun _ _ h _ _ => h, fun _ _ h => h, fun _ h => h, fun _ _ _ h => h, fun _ h => h⟩
theorem Kp.trans {W : AS} {H H1 H2 : Hp} (a : Kp W H H1) (b : Kp W H1 H2) : Kp W H H2 :=
  ⟨fun x o h n t => b.keep x o (a.keep x o h n t) n t, fun x xs h => b.tup x xs (a.tup x xs h), fun x h => b.dom x (a.dom x h), fun x o u h => b.frz x o u (a.frz x o u h), fun x h => b.tbl x (a.tbl x h)⟩
theorem Kp.mono {W W' : AS} {H H' : Hp} (a : Kp W H H') (m : ∀ b, W b → W' b) : Kp W' H H' :=
  ⟨fun x o h n t => a.keep x o h (fun z => n (m _ z)) t, a.tup, a.dom, a.frz, a.tbl⟩
/-- nothing changed -/
abbrev Ext (H H' : Hp) : Prop := ∀ a o, H a = some o → H' a = some o
theorem Kp.ext {W : AS} {H H' : Hp} (e : Ext H H') : Kp W H H' :=
  ⟨fun a o h _ _ => e a o h, fun a xs h => e _ _ h, fun a h => by
    cases q : H a with
    | none => exact absurd q h
    | some o => rw [e a o q]; exact fun z => (nomatch z), fun a o u h => e _ _ h, fun a h => h.ext e⟩
theorem Ext.refl (H : Hp) : Ext H H := fun _ _ h => h
theorem Ext.trans {H H1 H2 : Hp} (a : Ext H H1) (b : Ext H1 H2) : Ext H H2 := fun x o h => b x o (a x o h)
theorem Ext.new {H : Hp} {p : Addr} {o : HO} (h : H p = none) : Ext H (upd H p o) := fun a u e => by rw [upd_ne (ne_of_none e h)]; exact e
theorem Ext.dom {H H' : Hp} (e : Ext H H') {a : Addr} (h : H a ≠ none) : H' a ≠ none := (Kp.ext (W := fun _ => False) e).dom a h

theorem sqT_kp {K : PySem.W.Frag} {W : AS} {H H' : Hp} (k : Kp W H H') {a : Addr} {xs : List V} (h : SqT K H a xs) : SqT K H' a xs := by
  rcases h with (h | ⟨o, h⟩) | h
  · exact .inl (.inl (k.tup _ _ h))
  · exact .inl (.inr ⟨o, k.frz _ _ _ h⟩)
  · exact .inr h
theorem lsA_kp {K : PySem.W.Frag} {S W : AS} {H H' : Hp} (k : Kp W H H') (m : ∀ b, W b → S b) {a : Addr} {xs : List V} (h : LsA K S H a xs) : LsA K S H' a xs := by
  rcases h with ⟨n, h | ⟨o, h⟩⟩ | h
  · exact .inl ⟨n, .inl (k.keep _ _ h (fun z => n (m _ z)) fun _ z => nomatch z)⟩
  · exact .inl ⟨n, .inr ⟨o, k.frz _ _ _ h⟩⟩
  · exact .inr h
mutual
theorem Rep.kp {K : PySem.W.Frag} {S W : AS} {H H' : Hp} (k : Kp W H H') (m : ∀ b, W b → S b) : ∀ {d : D} {v : V}, Rep K S H d v → Rep K S H' d v
  | _, _, .non => .non
  | _, _, .bl b => .bl b
  | _, _, .int i => .int i
  | _, _, .str x => .str x
  | _, _, .fn x => .fn x
  | _, _, .tup h r => .tup (sqT_kp k h) (RepL.kp k m r)
  | _, _, .lst h r => .lst (lsA_kp k m h) (RepL.kp k m r)
theorem RepL.kp {K : PySem.W.Frag} {S W : AS} {H H' : Hp} (k : Kp W H H') (m : ∀ b, W b → S b) : ∀ {ds : List D} {vs : List V}, RepL K S H ds vs → RepL K S H' ds vs
  | _, _, .nil => .nil
  | _, _, .cons a b => .cons (Rep.kp k m a) (RepL.kp k m b)
end
theorem lsA_avoid {K : PySem.W.Frag} {S S' : AS} {H : Hp} (m : ∀ b, S' b → S b ∨ H b = none) {a : Addr} {xs : List V} (h : LsA K S H a xs) : LsA K S' H a xs := by
  rcases h with ⟨n, h⟩ | h
  · refine .inl ⟨fun z => ?_, h⟩
    rcases m _ z with z | z
    · exact n z
    · rcases h with h | ⟨o, h⟩ <;> (rw [z] at h; cases h)
  · exact .inr h
mutual
/-- fewer addresses, and free ones, to keep away from -/
theorem Rep.avoid {K : PySem.W.Frag} {S S' : AS} {H : Hp} (m : ∀ b, S' b → S b ∨ H b = none) : ∀ {d : D} {v : V}, Rep K S H d v → Rep K S' H d v
  | _, _, .non => .non
  | _, _, .bl b => .bl b
  | _, _, .int i => .int i
  | _, _, .str x => .str x
  | _, _, .fn x => .fn x
  | _, _, .tup h r => .tup h (RepL.avoid m r)
  | _, _, .lst h r => .lst (lsA_avoid m h) (RepL.avoid m r)
theorem RepL.avoid {K : PySem.W.Frag} {S S' : AS} {H : Hp} (m : ∀ b, S' b → S b ∨ H b = none) : ∀ {ds : List D} {vs : List V}, RepL K S H ds vs → RepL K S' H ds vs
  | _, _, .nil => .nil
  | _, _, .cons a b => .cons (Rep.avoid m a) (RepL.avoid m b)
end
theorem RepL.length {K : PySem.W.Frag} {S : AS} {H : Hp} : ∀ {ds : List D} {vs : List V}, RepL K S H ds vs → ds.length = vs.length
  | _, _, .nil => rfl
  | _, _, .cons _ r => congrArg (· + 1) (RepL.length r)
theorem RepL.get {K : PySem.W.Frag} {S : AS} {H : Hp} : ∀ {ds : List D} {vs : List V} {i : Nat} {d : D}, RepL K S H ds vs → ds[i]? = some d → ∃ v, vs[i]? = some v ∧ Rep K S H d v
  | _, _, _, _, .nil, e => by simp at e
  | _, _, 0, _, .cons r _, e => by simp at e; subst e; exact ⟨_, rfl, r⟩
  | _, _, i + 1, d, .cons _ t, e => by
    obtain ⟨u, h1, h2⟩ := RepL.get (i := i) (d := d) t (by simpa using e)
    exact ⟨u, by simpa using h1, h2⟩
theorem RepL.get' {K : PySem.W.Frag} {S : AS} {H : Hp} : ∀ {ds : List D} {vs : List V} {i : Nat} {v : V}, RepL K S H ds vs → vs[i]? = some v → ∃ d, ds[i]? = some d ∧ Rep K S H d v
  | _, _, _, _, .nil, e => by simp at e
  | _, _, 0, _, .cons r _, e => by simp at e; subst e; exact ⟨_, rfl, r⟩
  | _, _, i + 1, d, .cons _ t, e => by
    obtain ⟨u, h1, h2⟩ := RepL.get' (i := i) (v := d) t (by simpa using e)
    exact ⟨u, by simpa using h1, h2⟩
theorem RepL.append {K : PySem.W.Frag} {S : AS} {H : Hp} : ∀ {ds es : List D} {vs us : List V}, RepL K S H ds vs → RepL K S H es us → RepL K S H (ds ++ es) (vs ++ us)
  | _, _, _, _, .nil, h => h
  | _, _, _, _, .cons a b, h => .cons a (RepL.append b h)
theorem RepL.take {K : PySem.W.Frag} {S : AS} {H : Hp} : ∀ {ds : List D} {vs : List V} (n : Nat), RepL K S H ds vs → RepL K S H (ds.take n) (vs.take n)
  | _, _, 0, _ => .nil
  | _, _, _ + 1, .nil => .nil
  | _, _, n + 1, .cons a b => .cons a (RepL.take n b)
theorem RepL.drop {K : PySem.W.Frag} {S : AS} {H : Hp} : ∀ {ds : List D} {vs : List V} (n : Nat), RepL K S H ds vs → RepL K S H (ds.drop n) (vs.drop n)
  | _, _, 0, h => h
  | _, _, _ + 1, .nil => .nil
  | _, _, n + 1, .cons _ b => RepL.drop n b
theorem RepL.rep {K : PySem.W.Frag} {S : AS} {H : Hp} {ds : List D} {vs : List V} (h : RepL K S H ds vs) : ∀ k : Nat, RepL K S H (List.replicate k ds).flatten (List.replicate k vs).flatten
  | 0 => .nil
  | k + 1 => by
    rw [List.replicate_succ, List.replicate_succ, List.flatten_cons, List.flatten_cons]
    exact h.append (RepL.rep h k)
theorem RepL.reverse {K : PySem.W.Frag} {S : AS} {H : Hp} : ∀ {ds : List D} {vs : List V}, RepL K S H ds vs → RepL K S H ds.reverse vs.reverse
  | _, _, .nil => .nil
  | _, _, .cons a b => by
    rw [List.reverse_cons, List.reverse_cons]
    exact (RepL.reverse b).append (.cons a .nil)
theorem RepL.set {K : PySem.W.Frag} {S : AS} {H : Hp} {d : D} {v : V} (r : Rep K S H d v) : ∀ {ds : List D} {vs : List V} (i : Nat), RepL K S H ds vs → RepL K S H (ds.set i d) (vs.set i v)
  | _, _, _, .nil => .nil
  | _, _, 0, .cons _ b => .cons r b
  | _, _, i + 1, .cons a b => .cons a (RepL.set r i b)
theorem RepL.ins {K : PySem.W.Frag} {S : AS} {H : Hp} {d : D} {v : V} (r : Rep K S H d v) {ds : List D} {vs : List V} (i : Nat) (h : RepL K S H ds vs) : RepL K S H (ds.take i ++ d :: ds.drop i) (vs.take i ++ v :: vs.drop i) :=
  (h.take i).append (.cons r (h.drop i))
theorem RepL.eraseIdx {K : PySem.W.Frag} {S : AS} {H : Hp} : ∀ {ds : List D} {vs : List V} (i : Nat), RepL K S H ds vs → RepL K S H (ds.eraseIdx i) (vs.eraseIdx i)
  | _, _, _, .nil => .nil
  | _, _, 0, .cons _ b => b
  | _, _, i + 1, .cons a b => .cons a (RepL.eraseIdx i b)
theorem RepL.dropLast {K : PySem.W.Frag} {S : AS} {H : Hp} : ∀ {ds : List D} {vs : List V}, RepL K S H ds vs → RepL K S H ds.dropLast vs.dropLast
  | _, _, .nil => .nil
  | _, _, .cons _ .nil => .nil
  | _, _, .cons a (.cons b c) => .cons a (RepL.dropLast (.cons b c))

/-! ### what stands at an address that is one's own -/
def keyD : Key → D
  | .inl i => .int i
  | .inr x => .str x
/-- the pairs of a dict with ints and texts as keys -/
inductive RepK (K : PySem.W.Frag) (S : AS) (H : Hp) : List (D × D) → List (Key × V) → Prop
  | nil : RepK K S H [] []
  | cons {k : Key} {d : D} {v : V} {ds : List (D × D)} {vs : List (Key × V)} : Rep K S H d v → RepK K S H ds vs → RepK K S H ((keyD k, d) :: ds) ((k, v) :: vs)
/-- a table of code objects, none of these at an address of S -/
def TabR (S : AS) (H : Hp) (a : Addr) (q : Str) : Prop := ∃ ps : Array Value, H a = some (.tbl ps) ∧ TriplesOk ps.toList ∧ ∀ (pos : Pos) (cv : Value), codeAmong pos ps.toList = some cv → ∃ c, cv = .ref c ∧ H c = some (LamX.CodeO c q) ∧ ¬ S c
/-- the list, the dict, the table at a is worth d -/
def Ob (K : PySem.W.Frag) (S : AS) (H : Hp) (d : D) (a : Addr) : Prop :=
  match d with
  | .lst ds => ∃ xs, H a = some (.lst xs) ∧ RepL K S H ds xs
  | .dic kvs => ∃ ks, H a = some (.dK ks) ∧ RepK K S H kvs ks ∧ (ks.map (·.1)).Nodup
  | _ => False
theorem RepK.kp {K : PySem.W.Frag} {S W : AS} {H H' : Hp} (k : Kp W H H') (m : ∀ b, W b → S b) : ∀ {ds : List (D × D)} {vs : List (Key × V)}, RepK K S H ds vs → RepK K S H' ds vs
  | _, _, .nil => .nil
  | _, _, .cons a b => .cons (Rep.kp k m a) (RepK.kp k m b)
theorem RepK.avoid {K : PySem.W.Frag} {S S' : AS} {H : Hp} (m : ∀ b, S' b → S b ∨ H b = none) : ∀ {ds : List (D × D)} {vs : List (Key × V)}, RepK K S H ds vs → RepK K S' H ds vs
  | _, _, .nil => .nil
  | _, _, .cons a b => .cons (Rep.avoid m a) (RepK.avoid m b)
theorem Ob.dom {K : PySem.W.Frag} {S : AS} {H : Hp} {d : D} {a : Addr} (h : Ob K S H d a) : H a ≠ none := by
  cases d with
  | lst ds => obtain ⟨_, e, _⟩ := h; rw [e]; exact fun z => nomatch z
  | dic kvs => obtain ⟨_, e, _⟩ := h; rw [e]; exact fun z => nomatch z
  | _ => exact h.elim
theorem Ob.notTup {K : PySem.W.Frag} {S : AS} {H : Hp} {d : D} {a : Addr} (h : Ob K S H d a) : (∀ xs, H a ≠ some (.tup xs)) ∧ ∀ o u, H a ≠ some (.frz o u) := by
  cases d with
  | lst ds => obtain ⟨_, e, _⟩ := h; rw [e]; exact ⟨fun _ z => (nomatch z), fun _ _ z => (nomatch z)⟩
  | dic kvs => obtain ⟨_, e, _⟩ := h; rw [e]; exact ⟨fun _ z => (nomatch z), fun _ _ z => (nomatch z)⟩
  | _ => exact h.elim
/-- no table, no code object -/
theorem Ob.notTbl {K : PySem.W.Frag} {S : AS} {H : Hp} {d : D} {a : Addr} (h : Ob K S H d a) : (∀ ps, H a ≠ some (.tbl ps)) ∧ ∀ c q, H a ≠ some (LamX.CodeO c q) := by
  cases d with
  | lst ds => obtain ⟨_, e, _⟩ := h; rw [e]; exact ⟨fun _ z => (nomatch z), fun _ _ z => by unfold LamX.CodeO at z; cases z⟩
  | dic kvs => obtain ⟨_, e, _⟩ := h; rw [e]; exact ⟨fun _ z => (nomatch z), fun _ _ z => by unfold LamX.CodeO at z; cases z⟩
  | _ => exact h.elim
/-- kept: its own object, and what its contents lean on -/
theorem Ob.kp {K : PySem.W.Frag} {S W : AS} {H H' : Hp} (k : Kp W H H') (m : ∀ b, W b → S b) {d : D} {a : Addr} (n : ¬ W a) (h : Ob K S H d a) : Ob K S H' d a := by
  cases d with
  | lst ds => obtain ⟨xs, e, r⟩ := h; exact ⟨xs, k.keep _ _ e n (fun _ z => nomatch z), r.kp k m⟩
  | dic kvs => obtain ⟨ks, e, r, nd⟩ := h; exact ⟨ks, k.keep _ _ e n (fun _ z => nomatch z), r.kp k m, nd⟩
  | _ => exact h.elim
theorem Ob.avoid {K : PySem.W.Frag} {S S' : AS} {H : Hp} (m : ∀ b, S' b → S b ∨ H b = none) {d : D} {a : Addr} (h : Ob K S H d a) : Ob K S' H d a := by
  cases d with
  | lst ds => obtain ⟨xs, e, r⟩ := h; exact ⟨xs, e, r.avoid m⟩
  | dic kvs => obtain ⟨ks, e, r, nd⟩ := h; exact ⟨ks, e, r.avoid m, nd⟩
  | _ => exact h.elim

/-- the weakest: it may be read at once (a list or dict of one's own, too); W: what may change meanwhile -/
def Vw (K : PySem.W.Frag) (W S : AS) (H : Hp) (d : D) (v : V) : Prop :=
  Rep K S H d v ∨ ∃ a, v = .ref a ∧ ¬ W a ∧ Ob K S H d a
theorem Vw.kp {K : PySem.W.Frag} {S W : AS} {H H' : Hp} (k : Kp W H H') (m : ∀ b, W b → S b) {d : D} {v : V} (h : Vw K W S H d v) : Vw K W S H' d v := by
  rcases h with h | ⟨a, e, n, h⟩
  · exact .inl (h.kp k m)
  · exact .inr ⟨a, e, n, h.kp k m n⟩
theorem Vw.avoid {K : PySem.W.Frag} {S S' W : AS} {H : Hp} (m : ∀ b, S' b → S b ∨ H b = none) {d : D} {v : V} (h : Vw K W S H d v) : Vw K W S' H d v := by
  rcases h with h | ⟨a, e, n, h⟩
  · exact .inl (h.avoid m)
  · exact .inr ⟨a, e, n, h.avoid m⟩
/-- a new address to keep away from -/
def plusA (S : AS) (D : Addr) : AS := fun a => S a ∨ a = D
/-- new, if it is a list or dict: what it holds does not lean on itself -/
def Fr (K : PySem.W.Frag) (S : AS) (H H' : Hp) (d : D) (v : V) : Prop :=
  match d with
  | .lst _ => ∃ p, v = .ref p ∧ H p = none ∧ Ob K (plusA S p) H' d p
  | .dic _ => ∃ p, v = .ref p ∧ H p = none ∧ Ob K (plusA S p) H' d p
  | _ => Rep K S H' d v
/-- beside a new object -/
theorem RepL.newP {K : PySem.W.Frag} {S : AS} {H : Hp} {ds : List D} {xs : List V} {p : Addr} {o : HO} (h : RepL K S H ds xs) (hn : H p = none) : RepL K (plusA S p) (upd H p o) ds xs :=
  (h.avoid (S' := plusA S p) fun b z => z.elim .inl fun e => .inr (by rw [e]; exact hn)).kp (W := fun _ => False) (Kp.ext (Ext.new hn)) fun _ z => z.elim
theorem Ob.minus {K : PySem.W.Frag} {S : AS} {H : Hp} {d : D} {a p : Addr} (h : Ob K (plusA S p) H d a) : Ob K S H d a := h.avoid fun _ z => .inl (.inl z)
theorem Fr.vw {K : PySem.W.Frag} {S W : AS} {H H' : Hp} {d : D} {v : V} (h : Fr K S H H' d v) (hw : ∀ a, W a → H a ≠ none) : Vw K W S H' d v := by
  cases d with
  | lst ds => obtain ⟨p, e, n, h⟩ := h; exact .inr ⟨p, e, fun z => hw _ z n, h.minus⟩
  | dic ds => obtain ⟨p, e, n, h⟩ := h; exact .inr ⟨p, e, fun z => hw _ z n, h.minus⟩
  | _ => exact .inl h
def isDic : D → Bool
  | .dic _ => true
  | _ => false
theorem Fr.rep {K : PySem.W.Frag} {S : AS} {H H' : Hp} {d : D} {v : V} (h : Fr K S H H' d v) (hd : isDic d = false) (hs : ∀ a, S a → H a ≠ none) : Rep K S H' d v := by
  cases d with
  | lst ds => obtain ⟨p, rfl, n, h⟩ := h; obtain ⟨xs, e, r⟩ := h.minus; exact .lst (.inl ⟨fun z => hs _ z n, .inl e⟩) r
  | dic ds => cases hd
  | _ => exact h
theorem Fr.of_rep {K : PySem.W.Frag} {S : AS} {H H' : Hp} {d : D} {v : V} (h : Rep K S H' d v) (h1 : ∀ ds, d ≠ .lst ds) : Fr K S H H' d v := by
  cases d with
  | lst ds => exact absurd rfl (h1 ds)
  | dic ds => cases h
  | _ => exact h
end Rf

set_option maxRecDepth 100000
set_option maxHeartbeats 1000000
/-! Rf1: operators over plain data, and that the model's operators do what these say. -/
namespace Rf
open PySem PySem.Spec PyProof.Rows L2

mutual
def toPD : D → PyData
  | .non => .none
  | .bl b => .bool b
  | .int i => .int i
  | .str x => .str x
  | .tup l => .tuple (toPDs l)
  | .lst l => .list (toPDs l)
  | .dic _ => .dict []
  | .fn _ => .dict []
def toPDs : List D → List PyData
  | [] => []
  | d :: ds => toPD d :: toPDs ds
end
/-- it can be compared: no function, no dict within, texts of signs -/
def lay (d : D) : Bool := (toPD d).canLay0
def layL (ds : List D) : Bool := PyData.canLayAll0 (toPDs ds)
def dep (d : D) : Nat := (toPD d).depth
def depL (ds : List D) : Nat := PyData.depthAll (toPDs ds)
/-- == -/
def eqD (a b : D) : Bool := PyData.eqv (toPD a) (toPD b)

theorem SqL.pl {X : Cx} {pins : List (Addr × Obj)} {σ : L2.St} {H : Hp} {s : Shared} {a : Addr} {xs : List V} (I : Inv X pins σ H s) (h : SqL X.K H a xs) : ∃ (its : List Value) (o : Obj) (n : Nat), Vals xs its ∧ s.heap.get? a = some o ∧ o.cls = .type "list" ∧ o.dict = none ∧ o.data = .seq its.toArray n ∧ xs.length ≤ sizeLine := by
  obtain ⟨its, r, ⟨o, n, e, hc, hd, hs⟩, z⟩ := I.list h
  exact ⟨its, o, n, r, e, hc, hd, hs, z⟩

mutual
theorem Rep.reads {X : Cx} {pins : List (Addr × Obj)} {σ : L2.St} {S : AS} {H : Hp} {s : Shared} (I : Inv X pins σ H s) : ∀ (d : D) (v : V) (u : Value), Rep X.K S H d v → RelV v u → lay d = true → ∃ as, Reads s.heap u (toPD d) as
  | .non, _, _, .non, r, _ => by cases r; exact ⟨_, .none⟩
  | .bl b, _, _, .bl _, r, _ => by cases r; exact ⟨_, .bool b⟩
  | .int i, _, _, .int _, r, _ => by obtain ⟨t, rfl⟩ := r; exact ⟨_, .int i t⟩
  | .str x, _, _, .str _, r, _ => by obtain ⟨t, rfl⟩ := r; exact ⟨_, .str x t⟩
  | .fn x, _, _, .fn _, r, l => by simp [lay, toPD, PyData.canLay0] at l
  | .tup ds, _, _, .tup h q, r, l => by
    cases r
    obtain ⟨its, rv, ⟨o, ho, hc, n, hd⟩, hz⟩ := I.tuple h
    obtain ⟨as, r1⟩ := RepL.reads I ds _ its q rv (by simpa [lay, layL, toPD, PyData.canLay0] using l)
    exact ⟨_, .tuple ho hc hd (by simpa using r1)⟩
  | .lst ds, _, _, .lst h q, r, l => by
    cases r
    obtain ⟨its, o, n, rv, ho, hc, _, hd, hz⟩ := SqL.pl I h.sq
    obtain ⟨as, r1⟩ := RepL.reads I ds _ its q rv (by simpa [lay, layL, toPD, PyData.canLay0] using l)
    exact ⟨_, .list ho hc hd (by simpa using r1)⟩
theorem RepL.reads {X : Cx} {pins : List (Addr × Obj)} {σ : L2.St} {S : AS} {H : Hp} {s : Shared} (I : Inv X pins σ H s) : ∀ (ds : List D) (vs : List V) (us : List Value), RepL X.K S H ds vs → Vals vs us → layL ds = true → ∃ as, ReadsAll s.heap us (toPDs ds) as
  | [], _, _, .nil, r, _ => by cases r; exact ⟨_, .nil⟩
  | d :: ds, _, _, .cons a b, r, l => by
    cases r with
    | cons r1 r2 =>
      have l' : lay d = true ∧ layL ds = true := by simpa [lay, layL, toPDs, PyData.canLayAll0] using l
      obtain ⟨as, h1⟩ := Rep.reads I d _ _ a r1 l'.1
      obtain ⟨bs, h2⟩ := RepL.reads I ds _ _ b r2 l'.2
      exact ⟨_, .cons h1 h2⟩
end
theorem Vw.reads {X : Cx} {pins : List (Addr × Obj)} {σ : L2.St} {W S : AS} {H : Hp} {s : Shared} (I : Inv X pins σ H s) {d : D} {v : V} {u : Value} (h : Vw X.K W S H d v) (r : RelV v u) (l : lay d = true) : ∃ as, Reads s.heap u (toPD d) as := by
  rcases h with h | ⟨a, rfl, n, h⟩
  · exact Rep.reads I d v u h r l
  · cases d with
    | lst ds =>
      obtain ⟨xs, e, q⟩ := h
      exact Rep.reads (S := fun _ => False) I (.lst ds) _ u (.lst (.inl ⟨fun z => z, .inl e⟩) (q.avoid fun _ z => z.elim)) r l
    | dic ds => simp [lay, toPD, PyData.canLay0] at l
    | _ => exact h.elim

/-! ### what a view gives -/
section
variable {K : PySem.W.Frag} {W S : AS} {H : Hp} {v : V}
theorem Vw.non (h : Vw K W S H .non v) : v = .non := by
  rcases h with h | ⟨_, _, _, h⟩
  · cases h; rfl
  · exact h.elim
theorem Vw.bl {b : Bool} (h : Vw K W S H (.bl b) v) : v = .bl b := by
  rcases h with h | ⟨_, _, _, h⟩
  · cases h; rfl
  · exact h.elim
theorem Vw.int {i : Int} (h : Vw K W S H (.int i) v) : v = .int i := by
  rcases h with h | ⟨_, _, _, h⟩
  · cases h; rfl
  · exact h.elim
theorem Vw.str {x : Str} (h : Vw K W S H (.str x) v) : v = .str x := by
  rcases h with h | ⟨_, _, _, h⟩
  · cases h; rfl
  · exact h.elim
theorem Vw.tup {ds : List D} (h : Vw K W S H (.tup ds) v) : ∃ a xs, v = .ref a ∧ SqT K H a xs ∧ RepL K S H ds xs := by
  rcases h with h | ⟨_, _, _, h⟩
  · cases h with
    | tup h r => exact ⟨_, _, rfl, h, r⟩
  · exact h.elim
theorem Vw.lst {ds : List D} (h : Vw K W S H (.lst ds) v) : ∃ a xs, v = .ref a ∧ SqL K H a xs ∧ RepL K S H ds xs := by
  rcases h with h | ⟨a, e, n, xs, h, r⟩
  · cases h with
    | lst h r => exact ⟨_, _, rfl, h.sq, r⟩
  · exact ⟨a, xs, e, .inl (.inl h), r⟩
theorem Vw.dic {ks : List (D × D)} (h : Vw K W S H (.dic ks) v) : ∃ a kvs, v = .ref a ∧ H a = some (.dK kvs) ∧ RepK K S H ks kvs ∧ (kvs.map (·.1)).Nodup := by
  rcases h with h | ⟨a, e, n, xs, h, r⟩
  · cases h
  · exact ⟨a, xs, e, h, r.1, r.2⟩
theorem Vw.ne_non {d : D} (h : Vw K W S H d v) : (v = .non) ↔ (d = .non) := by
  constructor
  · intro e
    subst e
    rcases h with h | ⟨a, e, _⟩
    · cases h; rfl
    · cases e
  · intro e
    subst e
    exact h.non
end

/-! ### the operators -/
abbrev LIM : Nat := 16777216
theorem lim_eq : sizeLine = LIM := sizeLine_eq
def mulB (i j : Int) : Bool := decide (i.natAbs.log2 + j.natAbs.log2 < 1000000)
noncomputable def binD : Operator → D → D → Option D
  | .Add, .int i, .int j => some (.int (i + j))
  | .Add, .str x, .str y => if x.length + y.length ≤ LIM then some (.str (x ++ y)) else none
  | .Add, .lst a, .lst b => if a.length + b.length ≤ LIM then some (.lst (a ++ b)) else none
  | .Add, .tup a, .tup b => if a.length + b.length ≤ LIM then some (.tup (a ++ b)) else none
  | .Sub, .int i, .int j => some (.int (i - j))
  | .Mult, .int i, .int j => if mulB i j = true then some (.int (i * j)) else none
  | .Mult, .lst a, .int k => @ite _ (0 ≤ k ∧ k < 2 ^ 62 ∧ a.length * k.toNat ≤ LIM) (Classical.propDecidable _) (some (.lst (List.replicate k.toNat a).flatten)) none
  | .Mult, .tup a, .int k => @ite _ (a ≠ [] ∧ 0 ≤ k ∧ k ≤ 1000 ∧ a.length ≤ 1000) (Classical.propDecidable _) (some (.tup (List.replicate k.toNat a).flatten)) none
  | .FloorDiv, .int i, .int j => if 0 < j ∧ j.natAbs.log2 < 9000 then some (.int (i / j)) else none
  | .Mod, .int i, .int j => if 0 < j then some (.int (i % j)) else none
  | .Pow, .int i, .int j => if 0 ≤ j ∧ j ≤ 1000000 ∧ i.natAbs < 2 ^ 64 then some (.int (i ^ j.toNat)) else none
  | _, _, _ => none

/-- two views in, a new value out -/
def rBin (K : PySem.W.Frag) (f : D → D → Option D) : R2 := fun x y H Q => ∃ (W S : AS) (a b d : D), Vw K W S H a x ∧ Vw K W S H b y ∧ f a b = some d ∧ ∀ v H', Ext H H' → Fr K S H H' d v → Q v H'
section
variable {X : Cx}
theorem list_mulW (l : Addr) (items : Array Value) (n : Nat) (dd : Option Addr) (sl : Array (Option Value)) (x : Int) (u : Tok) (hc0 : ¬(!Builtin.List.listFitsIndex x) = true) (hc1 : ¬items.size * x.toNat > (2 ^ 63 - 1) / 8) (hc2 : ¬Builtin.List.listTooLong (items.size * x.toNat) = true) :
    Meets (Builtin.«list.__mul__» ⟨[.ref l, .int x u], []⟩) (fun _ R s => s.heap.get? l = some { cls := .type "list", dict := dd, data := .seq items n, slots := sl } ∧ R (.ok (.ret (Value.ref s.heap.objs.size))) { s with heap := s.heap.push { cls := Value.type "list", data := Data.seq (List.foldl (fun x1 x2 => x1 ++ x2) #[] (List.replicate (if items.isEmpty = true then 0 else x.toNat) items)) }, toks := s.toks }) :=
  .of_wp fun prog w A R s h => by
    obtain ⟨hp, g, d, tk, os⟩ := s; obtain ⟨hl, h⟩ := h
    have hsz := AutoListH.joined_fits hc2
    have f1 := AutoSeq1.idx_int
    wp_walk using wpAny_loadPart' hl; refine wpAny_ite_false (decide_eq_false (Nat.not_lt.mpr hsz)) ?_; wp_walk using wpAny_loadPart' hl; exact ⟨_, rfl, h⟩
theorem int_rmulW (a : Int) (t : Tok) (l : Addr) (items : Array Value) (n : Nat) (dd : Option Addr) (sl : Array (Option Value)) :
    Meets (Builtin.«int.__rmul__» ⟨[.int a t, .ref l], []⟩) (fun _ R s => s.heap.get? l = some { cls := .type "list", dict := dd, data := .seq items n, slots := sl } ∧ R (.ok (.ret Value.notImplemented)) s) :=
  .of_wp fun prog w A R s h => by obtain ⟨hp, g, d, tk, os⟩ := s; obtain ⟨hl, h⟩ := h; wp_walk using wpAny_loadPart' hl; exact ⟨_, rfl, h⟩
end
end Rf

set_option maxRecDepth 100000
set_option maxHeartbeats 1000000
/-! Rf2: the model's binary operators do what binD says. -/
namespace Rf
open PySem PySem.Spec PyProof.Rows L2
variable [TN]
section
variable {X : Cx}
/-- list + list, whatever is read -/
theorem op_catL : OpR X (binaryOp .Add) (fun x y H Q => ∃ a b xs ys, x = .ref a ∧ y = .ref b ∧ SqL X.K H a xs ∧ SqL X.K H b ys ∧ xs.length + ys.length ≤ sizeLine ∧ ∀ p, H p = none → Q (.ref p) (upd H p (.lst (xs ++ ys)))) := by
  intro pins s σ H x y v u Q I rx ry h
  obtain ⟨l, b, xs, zs, rfl, rfl, hH, hB, hz, q⟩ := h
  cases rx
  cases ry
  obtain ⟨its, ⟨cls, dd, data, sl⟩, n, r, ho, hc, hdd, hd, hl⟩ := SqL.pl I hH
  obtain ⟨its2, ⟨cls2, dd2, data2, sl2⟩, n2, r2, ho2, hc2, hdd2, hd2, hl2⟩ := SqL.pl I hB
  simp only at hc hd hdd hc2 hd2 hdd2
  subst hc hd hdd hc2 hd2 hdd2
  have e1 := r.length
  have e2 := r2.length
  refine concat_meets ⟨_, ho, rfl⟩ ⟨_, ho2, rfl⟩ noFill_list_add seq_list_add PySem.F.slot_list_add PySem.F.entry_list_add (PySem.F.args_list_add_2 _ _) (list_addW l b its.toArray its2.toArray n n2 none none sl sl2 (by simp only [List.size_toArray]; omega)) ⟨ho, ho2, ?_⟩
  have ea : its.toArray ++ its2.toArray = (its ++ its2).toArray := by simp
  rw [ea]
  exact ⟨.ref _, _, I.lnew (t' := s.toks) (r.append r2) (by rw [List.length_append]; omega), rfl, q _ I.fresh⟩
/-- list * int, whatever is read -/
theorem op_repL : OpR X (binaryOp .Mult) (fun x y H Q => ∃ l k xs, x = .ref l ∧ y = .int k ∧ SqL X.K H l xs ∧ -(2 ^ 63) ≤ k ∧ k < 2 ^ 63 ∧ xs.length * k.toNat ≤ sizeLine ∧ ∀ p, H p = none → Q (.ref p) (upd H p (.lst (List.replicate k.toNat xs).flatten))) := by
  intro pins s σ H x y v u Q I rx ry h
  obtain ⟨l, k, xs, rfl, rfl, hH, h1, h2, hz, q⟩ := h
  cases rx
  obtain ⟨t, rfl⟩ := ry
  obtain ⟨its, ⟨cls, dd, data, sl⟩, n, r, e, hc, hdd, hd, hlz⟩ := SqL.pl I hH
  simp only at hc hd hdd
  subst hc hd hdd
  have hl := r.length
  have hlen : its.toArray.size * k.toNat ≤ sizeLine := by rw [List.size_toArray, ← hl]; exact hz
  have hcap : ¬ its.toArray.size * k.toNat > (2 ^ 63 - 1) / 8 := by
    have : (sizeLine : Nat) ≤ (2 ^ 63 - 1) / 8 := by decide
    omega
  have hfit : ¬ (!Builtin.List.listFitsIndex k) = true := by
    rw [fitsIndex_both h1 h2]
    exact Bool.false_ne_true
  have hlong : ¬ Builtin.List.listTooLong (its.toArray.size * k.toNat) = true := by
    rw [notLongL hlen]
    exact Bool.false_ne_true
  have hnew : List.foldl (fun x1 x2 => x1 ++ x2) #[] (List.replicate (if its.toArray.isEmpty = true then 0 else k.toNat) its.toArray) = (List.replicate k.toNat its).flatten.toArray := by
    have f0 : ∀ m : Nat, List.foldl (fun x1 x2 => x1 ++ x2) #[] (List.replicate m its.toArray) = (List.replicate m its).flatten.toArray := fun m => by
      have := foldl_rep its m []
      rw [List.nil_append] at this
      exact this
    rw [f0]
    cases its with
    | nil => simp
    | cons a r' => rw [if_neg (by simp)]
  refine wpAny_binaryOp_repeat_ref (T := "list") (U := "int") (by decide) ⟨_, e, rfl⟩ (fun s' => typeIs_int s' k t) noFill_list_mul PySem.F.fills_int_mul PySem.F.slot_int_rmul repeat_list PySem.F.slot_int_index.lookup
    (call_meets PySem.F.slot_int_rmul (typeIs_int s k t) PySem.F.entry_int_rmul (PySem.F.args_int_rmul_2 _ _) (int_rmulW k t l its.toArray n none sl)
      ⟨e, rfl, ⟨_, e, rfl⟩, call_meets PySem.F.slot_list_mul ⟨_, e, rfl⟩ PySem.F.entry_list_mul (PySem.F.args_list_mul_2 _ _) (list_mulW l its.toArray n none sl k t hfit hcap hlong) ⟨e, ?_⟩⟩)
  rw [hnew]
  exact ⟨.ref _, _, I.lnew (t' := s.toks) (r.rep k.toNat) (by rw [PyProof.Rows.lm_len_rep_flat, Nat.mul_comm]; exact hz), rfl, q _ I.fresh⟩
end

theorem tuple_mul1 (l : Addr) (items : Array Value) (n : Nat) (dd : Option Addr) (sl : Array (Option Value)) (u : Tok) :
    Meets (Builtin.«tuple.__mul__» ⟨[.ref l, .int 1 u], []⟩) (fun _ R s => s.heap.get? l = some { cls := .type "tuple", dict := dd, data := .seq items n, slots := sl } ∧
      R (.ok (.ret (Value.ref l))) s) :=
  .of_wp fun prog w A R s h => by
    obtain ⟨hp, g, d, tk, os⟩ := s
    obtain ⟨hl, h⟩ := h
    have f1 := AutoSeq1.idx_int
    wp_walk using wpAny_loadPart' hl
    exact ⟨_, rfl, h⟩
section
variable {X : Cx}
/-- tuple * 1: itself -/
theorem op_repT1 : OpR X (binaryOp .Mult) (fun x y H Q => ∃ l xs, x = .ref l ∧ y = .int 1 ∧ SqT X.K H l xs ∧ Q (.ref l) H) := by
  intro pins s σ H x y v u Q I rx ry h
  obtain ⟨l, xs, rfl, rfl, hT, q⟩ := h
  cases rx
  obtain ⟨t, rfl⟩ := ry
  obtain ⟨its, r, ⟨⟨cls, dd, data, sl⟩, ho, hc, n, hd⟩, hs⟩ := I.tuple hT
  simp only at hc hd
  subst hc hd
  refine wpAny_binaryOp_repeat_ref (T := "tuple") (U := "int") (by decide) ⟨_, ho, rfl⟩ (fun s' => typeIs_int s' 1 t) noFill_tuple_mul PySem.F.fills_int_mul PySem.F.slot_int_rmul repeat_tuple PySem.F.slot_int_index.lookup
    (call_meets PySem.F.slot_int_rmul (typeIs_int s 1 t) PySem.F.entry_int_rmul (PySem.F.args_int_rmul_2 _ _) (int_rmul_tuple 1 t l its.toArray n dd sl)
      ⟨ho, rfl, ⟨_, ho, rfl⟩, call_meets PySem.F.slot_tuple_mul ⟨_, ho, rfl⟩ PySem.F.entry_tuple_mul (PySem.F.args_tuple_mul_2 _ _) (tuple_mul1 l its.toArray n dd sl t) ⟨ho, ?_⟩⟩)
  exact ⟨.ref l, H, I, rfl, q⟩
theorem tuple_mul0 (l : Addr) (items : Array Value) (n : Nat) (dd : Option Addr) (sl : Array (Option Value)) (u : Tok) (c1 : items.isEmpty = false) :
    Meets (Builtin.«tuple.__mul__» ⟨[.ref l, .int 0 u], []⟩) (fun _ R s => s.heap.get? l = some { cls := .type "tuple", dict := dd, data := .seq items n, slots := sl } ∧
      R (.ok (.ret (Value.ref s.heap.objs.size))) { s with heap := s.heap.push { cls := Value.type "tuple", data := Data.seq #[] }, toks := s.toks }) :=
  .of_wp fun prog w A R s h => by
    obtain ⟨hp, g, d, tk, os⟩ := s
    obtain ⟨hl, h⟩ := h
    have f1 := AutoSeq1.idx_int
    wp_walk using wpAny_loadPart' hl
    repeat (first
      | (refine wpAny_ite_false (decide_eq_false (by rw [c1]; decide)) ?_; wp_walk using wpAny_loadPart' hl))
    exact ⟨_, rfl, h⟩
/-- tuple * 0: a new one -/
theorem op_repT0 : OpR X (binaryOp .Mult) (fun x y H Q => ∃ l xs, x = .ref l ∧ y = .int 0 ∧ SqT X.K H l xs ∧ xs ≠ [] ∧ ∀ p, H p = none → Q (.ref p) (upd H p (.tup []))) := by
  intro pins s σ H x y v u Q I rx ry h
  obtain ⟨l, xs, rfl, rfl, hT, hne, q⟩ := h
  cases rx
  obtain ⟨t, rfl⟩ := ry
  obtain ⟨its, r, ⟨⟨cls, dd, data, sl⟩, ho, hc, n, hd⟩, hs⟩ := I.tuple hT
  simp only at hc hd
  subst hc hd
  have hi : its.toArray.isEmpty = false := by
    cases r with
    | nil => exact absurd rfl hne
    | cons _ _ => rfl
  refine wpAny_binaryOp_repeat_ref (T := "tuple") (U := "int") (by decide) ⟨_, ho, rfl⟩ (fun s' => typeIs_int s' 0 t) noFill_tuple_mul PySem.F.fills_int_mul PySem.F.slot_int_rmul repeat_tuple PySem.F.slot_int_index.lookup
    (call_meets PySem.F.slot_int_rmul (typeIs_int s 0 t) PySem.F.entry_int_rmul (PySem.F.args_int_rmul_2 _ _) (int_rmul_tuple 0 t l its.toArray n dd sl)
      ⟨ho, rfl, ⟨_, ho, rfl⟩, call_meets PySem.F.slot_tuple_mul ⟨_, ho, rfl⟩ PySem.F.entry_tuple_mul (PySem.F.args_tuple_mul_2 _ _) (tuple_mul0 l its.toArray n dd sl t hi) ⟨ho, ?_⟩⟩)
  refine ⟨.ref s.heap.objs.size, _, I.laid (t' := s.toks) (o := .tup []) (fun b ob q => Heap.get?_push_of_some _ q) (Nat.le_refl _) ?_, rfl, q _ (I.hok.fresh (Nat.le_refl _))⟩
  exact ⟨by simp, _, .nil, IsTup.new _ _⟩
/-- the whole of binD -/
theorem opr_bin (op : Operator) : OpR X (binaryOp op) (rBin X.K (binD op)) := by
  intro pins s σ H x y v u Q I rx ry h
  obtain ⟨W, S, a, b, d, va, vb, hd, q⟩ := h
  have new : ∀ (o : HO) (p : Addr), H p = none → Ext H (upd H p o) := fun o p hp => Ext.new hp
  have nw : ∀ (o : HO) (p : Addr), H p = none → Kp (fun _ => False) H (upd H p o) := fun o p hp => Kp.ext (Ext.new hp)
  have no : ∀ b, (fun (_ : Addr) => False) b → S b := fun b z => z.elim
  cases op with
  | Add =>
    cases a <;> cases b <;> simp only [binD] at hd <;> try contradiction
    · rename_i i j
      cases hd
      obtain rfl := va.int
      obtain rfl := vb.int
      exact op_add pins s σ H _ _ v u Q I rx ry ⟨i, j, rfl, rfl, q _ _ (Ext.refl _) (.int _)⟩
    · rename_i i j
      split at hd
      · rename_i hz
        cases hd
        obtain rfl := va.str
        obtain rfl := vb.str
        exact op_add_str pins s σ H _ _ v u Q I rx ry ⟨i, j, rfl, rfl, by rw [lim_eq]; exact hz, q _ _ (Ext.refl _) (.str _)⟩
      · cases hd
    · rename_i i j
      split at hd
      · rename_i hz
        cases hd
        obtain ⟨p, xs, rfl, h1, r1⟩ := va.tup
        obtain ⟨p2, ys, rfl, h2, r2⟩ := vb.tup
        have e1 := r1.length
        have e2 := r2.length
        refine op_catA pins s σ H _ _ v u Q I rx ry ⟨p, p2, xs, ys, rfl, rfl, h1, h2, by rw [lim_eq]; omega, fun e => ?_, fun _ e => ?_, fun _ _ t ht => ?_⟩
        · subst e
          cases r1
          exact q _ _ (Ext.refl _) (.tup h2 r2)
        · subst e
          cases r2
          rw [List.append_nil] at q
          exact q _ _ (Ext.refl _) (.tup h1 r1)
        · exact q _ _ (new _ _ ht) (.tup (SqT.of upd_same) ((r1.append r2).kp (nw _ _ ht) no))
      · cases hd
    · rename_i i j
      split at hd
      · rename_i hz
        cases hd
        obtain ⟨p, xs, rfl, h1, r1⟩ := va.lst
        obtain ⟨p2, ys, rfl, h2, r2⟩ := vb.lst
        have e1 := r1.length
        have e2 := r2.length
        exact op_catL pins s σ H _ _ v u Q I rx ry ⟨p, p2, xs, ys, rfl, rfl, h1, h2, by rw [lim_eq]; omega, fun t ht => q _ _ (new _ _ ht) ⟨t, rfl, ht, _, upd_same, (r1.append r2).newP ht⟩⟩
      · cases hd
  | Sub =>
    cases a <;> cases b <;> simp only [binD] at hd <;> try contradiction
    rename_i i j
    cases hd
    obtain rfl := va.int
    obtain rfl := vb.int
    exact op_sub pins s σ H _ _ v u Q I rx ry ⟨i, j, rfl, rfl, q _ _ (Ext.refl _) (.int _)⟩
  | Mult =>
    cases a <;> cases b <;> simp only [binD] at hd <;> try contradiction
    · rename_i i j
      split at hd
      · rename_i hz
        cases hd
        obtain rfl := va.int
        obtain rfl := vb.int
        exact op_mulW pins s σ H _ _ v u Q I rx ry ⟨i, j, rfl, rfl, by simpa [mulB, CMulW] using hz, q _ _ (Ext.refl _) (.int _)⟩
      · cases hd
    · rename_i i j
      split at hd
      · rename_i hz
        obtain ⟨hne, h1, h2, h3⟩ := hz
        cases hd
        obtain ⟨p, xs, rfl, hT, r1⟩ := va.tup
        obtain rfl := vb.int
        have e1 := r1.length
        by_cases hj0 : j = 0
        · subst hj0
          exact op_repT0 pins s σ H _ _ v u Q I rx ry ⟨p, xs, rfl, rfl, hT, fun e => hne (by subst e; cases r1; rfl), fun t ht => q _ _ (new _ _ ht) (.tup (SqT.of upd_same) .nil)⟩
        by_cases hj : j = 1
        · subst hj
          refine op_repT1 pins s σ H _ _ v u Q I rx ry ⟨p, xs, rfl, rfl, hT, ?_⟩
          have e : (List.replicate (1 : Int).toNat i).flatten = i := by
            show (List.replicate 1 i).flatten = i
            simp
          rw [e] at q
          exact q _ _ (Ext.refl _) (.tup hT r1)
        · refine op_repT pins s σ H _ _ v u Q I rx ry ⟨p, j, xs, rfl, rfl, hT, fun e => hne (by subst e; cases r1; rfl), by omega, h2, by omega, fun t ht => q _ _ (new _ _ ht) (.tup (SqT.of upd_same) ((r1.rep j.toNat).kp (nw _ _ ht) no))⟩
      · cases hd
    · rename_i i j
      split at hd
      · rename_i hz
        obtain ⟨h1, h2, h3⟩ := hz
        cases hd
        obtain ⟨p, xs, rfl, hT, r1⟩ := va.lst
        obtain rfl := vb.int
        have e1 := r1.length
        exact op_repL pins s σ H _ _ v u Q I rx ry ⟨p, j, xs, rfl, rfl, hT, by omega, by omega, by rw [lim_eq, ← e1]; exact h3, fun t ht => q _ _ (new _ _ ht) ⟨t, rfl, ht, _, upd_same, (r1.rep j.toNat).newP ht⟩⟩
      · cases hd
  | FloorDiv =>
    cases a <;> cases b <;> simp only [binD] at hd <;> try contradiction
    rename_i i j
    split at hd
    · rename_i hz
      cases hd
      obtain rfl := va.int
      obtain rfl := vb.int
      exact op_fdivW pins s σ H _ _ v u Q I rx ry ⟨i, j, rfl, rfl, hz, q _ _ (Ext.refl _) (.int _)⟩
    · cases hd
  | Mod =>
    cases a <;> cases b <;> simp only [binD] at hd <;> try contradiction
    rename_i i j
    split at hd
    · rename_i hz
      cases hd
      obtain rfl := va.int
      obtain rfl := vb.int
      exact op_mod pins s σ H _ _ v u Q I rx ry ⟨i, j, rfl, rfl, hz, q _ _ (Ext.refl _) (.int _)⟩
    · cases hd
  | Pow =>
    cases a <;> cases b <;> simp only [binD] at hd <;> try contradiction
    rename_i i j
    split at hd
    · rename_i hz
      cases hd
      obtain rfl := va.int
      obtain rfl := vb.int
      exact op_pow pins s σ H _ _ v u Q I rx ry ⟨i, j, rfl, rfl, hz, q _ _ (Ext.refl _) (.int _)⟩
    · cases hd
  | _ => simp [binD] at hd
end
end Rf

set_option maxRecDepth 100000
set_option maxHeartbeats 1000000
/-! Rf3: comparisons, items, slices. -/
namespace Rf
open PySem PySem.Spec PyProof.Rows L2

def isNon : D → Bool
  | .non => true
  | _ => false
/-- one text within another -/
def strIn (x y : Str) : Bool := !(Builtin.Str.occurrences y x 0 y.length 1).isEmpty
def keyOf : D → Option Key
  | .int i => some (.inl i)
  | .str x => some (.inr x)
  | _ => none
/-- the same key -/
def keyEq : D → D → Bool
  | .int i, .int j => decide (i = j)
  | .str x, .str y => decide (x = y)
  | _, _ => false
def dGet (kvs : List (D × D)) (k : D) : Option D := (kvs.find? fun p => keyEq p.1 k).map (·.2)
def anyEq (ds : List D) (d : D) : Bool := ds.any fun z => eqD z d
def okIn (ds : List D) (d : D) : Bool := layL ds && lay d && decide (min (depL ds) (dep d) ≤ 100)
def okEq (a b : D) : Bool := lay a && lay b && decide (min (dep a) (dep b) ≤ 100)
/-- x in y -/
def inD : D → D → Option Bool
  | x, .lst ds => if okIn ds x = true then some (anyEq ds x) else none
  | x, .tup ds => if okIn ds x = true then some (anyEq ds x) else none
  | .str x, .str y => some (strIn x y)
  | x, .dic kvs => (keyOf x).map fun _ => (dGet kvs x).isSome
  | _, _ => none
def cmpD : CmpOp → D → D → Option D
  | .Eq, a, b => if okEq a b = true then some (.bl (eqD a b)) else none
  | .NotEq, a, b => if okEq a b = true then some (.bl (!eqD a b)) else none
  | .Lt, .int i, .int j => some (.bl (decide (i < j)))
  | .LtE, .int i, .int j => some (.bl (decide (i ≤ j)))
  | .Gt, .int i, .int j => some (.bl (decide (j < i)))
  | .GtE, .int i, .int j => some (.bl (decide (j ≤ i)))
  | .Lt, .str i, .str j => some (.bl (decide (i.cps.toList < j.cps.toList)))
  | .In, a, b => (inD a b).map .bl
  | .NotIn, a, b => (inD a b).map fun k => .bl (!k)
  | .Is, .bl a, .bl b => some (.bl (decide (a = b)))
  | .Is, a, .non => some (.bl (isNon a))
  | .IsNot, .bl a, .bl b => some (.bl (!decide (a = b)))
  | .IsNot, a, .non => some (.bl (!isNon a))
  | _, _, _ => none

/-- two views in, a value out that is none of the heap's -/
def rVal (K : PySem.W.Frag) (f : D → D → Option D) : R2 := fun x y H Q => ∃ (W S : AS) (a b d : D), Vw K W S H a x ∧ Vw K W S H b y ∧ f a b = some d ∧ ∀ v, Rep K S H d v → Q v H
section
variable {X : Cx}
theorem any_toPD (d : D) : ∀ ds : List D, (toPDs ds).any (fun z => PyData.eqv z (toPD d)) = anyEq ds d
  | [] => by simp [toPDs, anyEq]
  | e :: ds => by
    have := any_toPD d ds
    simp only [toPDs, anyEq, List.any_cons, eqD] at this ⊢
    rw [this]
theorem okEq_p {a b : D} (h : okEq a b = true) : lay a = true ∧ lay b = true ∧ min (dep a) (dep b) ≤ 100 := by
  unfold okEq at h
  rw [Bool.and_eq_true, Bool.and_eq_true] at h
  exact ⟨h.1.1, h.1.2, of_decide_eq_true h.2⟩
theorem okIn_p {a : List D} {b : D} (h : okIn a b = true) : layL a = true ∧ lay b = true ∧ min (depL a) (dep b) ≤ 100 := by
  unfold okIn at h
  rw [Bool.and_eq_true, Bool.and_eq_true] at h
  exact ⟨h.1.1, h.1.2, of_decide_eq_true h.2⟩
theorem keyEq_k (k j : Key) : keyEq (keyD k) (keyD j) = decide (k = j) := by
  cases k <;> cases j <;> simp [keyEq, keyD]
theorem keyOf_some {x : D} {k : Key} (h : keyOf x = some k) : x = keyD k := by
  cases x <;> simp [keyOf] at h <;> subst h <;> rfl
theorem RepK.val {K : PySem.W.Frag} {S : AS} {H : Hp} (k : Key) : ∀ {ds : List (D × D)} {vs : List (Key × V)}, RepK K S H ds vs → (dGet ds (keyD k) = none ∧ valV vs k = none) ∨ ∃ d v, dGet ds (keyD k) = some d ∧ valV vs k = some v ∧ Rep K S H d v
  | _, _, .nil => .inl ⟨rfl, rfl⟩
  | _, _, .cons (k := j) (d := d) (v := v) (ds := ds) (vs := vs) a b => by
    by_cases e : j = k
    · subst e
      refine .inr ⟨d, v, ?_, valV_pos rfl, a⟩
      simp [dGet, keyEq_k]
    · rcases RepK.val k b with ⟨h1, h2⟩ | ⟨d', v', h1, h2, h3⟩
      · refine .inl ⟨?_, by rw [valV_neg e]; exact h2⟩
        simpa [dGet, keyEq_k, e] using h1
      · refine .inr ⟨d', v', ?_, by rw [valV_neg e]; exact h2, h3⟩
        simpa [dGet, keyEq_k, e] using h1
theorem RepK.isSome {K : PySem.W.Frag} {S : AS} {H : Hp} {ds : List (D × D)} {vs : List (Key × V)} (r : RepK K S H ds vs) (k : Key) : (dGet ds (keyD k)).isSome = (valV vs k).isSome := by
  rcases r.val k with ⟨h1, h2⟩ | ⟨d', v', h1, h2, h3⟩ <;> rw [h1, h2] <;> rfl
theorem Vw.key {K : PySem.W.Frag} {W S : AS} {H : Hp} {x : D} {v : V} {k : Key} (h : Vw K W S H x v) (e : keyOf x = some k) : v = kV k := by
  cases x <;> simp [keyOf] at e <;> subst e
  · exact h.int
  · exact h.str

theorem op_in_all (hu : X.A.units + 102 < cLine) : OpR X (compareOp .In) (rVal X.K fun a b => (inD a b).map .bl) := by
  intro pins s σ H x y v u Q I rx ry h
  obtain ⟨W, S, a, b, d, va, vb, hd, q⟩ := h
  simp only at hd
  cases e : inD a b with
  | none => rw [e] at hd; cases hd
  | some k =>
    rw [e] at hd
    cases hd
    have fin : EP X pins σ Q (.bool k) s := ⟨.bl k, H, I, rfl, q _ (.bl k)⟩
    cases b with
    | lst ds =>
      have e' : (if okIn ds a = true then some (anyEq ds a) else none) = some k := by simpa [inD] using e
      split at e'
      · rename_i hok
        cases e'
        obtain ⟨h1, h2, h3⟩ := okIn_p hok
        obtain ⟨as, r1⟩ := va.reads I rx h2
        obtain ⟨bs, r2⟩ := vb.reads I ry (by simpa [lay, layL, toPD, PyData.canLay0] using h1)
        refine SeqAt.in_list_reads (by simpa [toPD] using r2) r1 h1 h2 (by have : min (PyData.depthAll (toPDs ds)) (toPD a).depth ≤ 100 := h3; omega) ?_
        rw [any_toPD]
        exact fin
      · cases e'
    | tup ds =>
      have e' : (if okIn ds a = true then some (anyEq ds a) else none) = some k := by simpa [inD] using e
      split at e'
      · rename_i hok
        cases e'
        obtain ⟨h1, h2, h3⟩ := okIn_p hok
        obtain ⟨as, r1⟩ := va.reads I rx h2
        obtain ⟨bs, r2⟩ := vb.reads I ry (by simpa [lay, layL, toPD, PyData.canLay0] using h1)
        refine SeqAt.in_tuple_reads (by simpa [toPD] using r2) r1 h1 h2 (by have : min (PyData.depthAll (toPDs ds)) (toPD a).depth ≤ 100 := h3; omega) ?_
        rw [any_toPD]
        exact fin
      · cases e'
    | str z =>
      cases a <;> simp only [inD] at e <;> try contradiction
      rename_i z'
      cases e
      obtain rfl := va.str
      obtain rfl := vb.str
      exact op_in_str pins s σ H _ _ v u Q I rx ry ⟨z', z, rfl, rfl, q _ (.bl _)⟩
    | dic kvs =>
      cases ek : keyOf a with
      | none => simp [inD, ek] at e
      | some ky =>
        have e' : (dGet kvs a).isSome = k := by simpa [inD, ek] using e
        obtain ⟨p, ks, rfl, hp, rk, nd⟩ := vb.dic
        obtain rfl := va.key ek
        have ea := keyOf_some ek
        subst ea
        obtain rfl : u = Value.ref p := ry
        refine d_in (by omega) I (DGet.k (k := ky) hp) rx fun s3 I3 => ⟨.bl _, H, I3, rfl, ?_⟩
        rw [← rk.isSome ky, e']
        exact q _ (.bl _)
    | _ => cases a <;> simp [inD] at e
theorem op_notIn_all (hu : X.A.units + 102 < cLine) : OpR X (compareOp .NotIn) (rVal X.K fun a b => (inD a b).map fun k => .bl (!k)) := by
  intro pins s σ H x y v u Q I rx ry h
  obtain ⟨W, S, a, b, d, va, vb, hd, q⟩ := h
  simp only at hd
  cases e : inD a b with
  | none => rw [e] at hd; cases hd
  | some k =>
    rw [e] at hd
    cases hd
    have fin : EP X pins σ Q (.bool !k) s := ⟨.bl !k, H, I, rfl, q _ (.bl !k)⟩
    cases b with
    | lst ds =>
      have e' : (if okIn ds a = true then some (anyEq ds a) else none) = some k := by simpa [inD] using e
      split at e'
      · rename_i hok
        cases e'
        obtain ⟨h1, h2, h3⟩ := okIn_p hok
        obtain ⟨as, r1⟩ := va.reads I rx h2
        obtain ⟨bs, r2⟩ := vb.reads I ry (by simpa [lay, layL, toPD, PyData.canLay0] using h1)
        refine SeqAt.notIn_list_reads (by simpa [toPD] using r2) r1 h1 h2 (by have : min (PyData.depthAll (toPDs ds)) (toPD a).depth ≤ 100 := h3; omega) ?_
        rw [any_toPD]
        exact fin
      · cases e'
    | tup ds =>
      have e' : (if okIn ds a = true then some (anyEq ds a) else none) = some k := by simpa [inD] using e
      split at e'
      · rename_i hok
        cases e'
        obtain ⟨h1, h2, h3⟩ := okIn_p hok
        obtain ⟨as, r1⟩ := va.reads I rx h2
        obtain ⟨bs, r2⟩ := vb.reads I ry (by simpa [lay, layL, toPD, PyData.canLay0] using h1)
        refine SeqAt.notIn_tuple_reads (by simpa [toPD] using r2) r1 h1 h2 (by have : min (PyData.depthAll (toPDs ds)) (toPD a).depth ≤ 100 := h3; omega) ?_
        rw [any_toPD]
        exact fin
      · cases e'
    | str z =>
      cases a <;> simp only [inD] at e <;> try contradiction
      rename_i z'
      cases e
      obtain rfl := va.str
      obtain rfl := vb.str
      exact op_notin_str pins s σ H _ _ v u Q I rx ry ⟨z', z, rfl, rfl, q _ (.bl _)⟩
    | dic kvs =>
      cases ek : keyOf a with
      | none => simp [inD, ek] at e
      | some ky =>
        have e' : (dGet kvs a).isSome = k := by simpa [inD, ek] using e
        obtain ⟨p, ks, rfl, hp, rk, nd⟩ := vb.dic
        obtain rfl := va.key ek
        have ea := keyOf_some ek
        subst ea
        obtain rfl : u = Value.ref p := ry
        refine d_notIn (by omega) I (DGet.k (k := ky) hp) rx fun s3 I3 => ⟨.bl _, H, I3, rfl, ?_⟩
        rw [← rk.isSome ky, e']
        exact q _ (.bl _)
    | _ => cases a <;> simp [inD] at e
/-- the whole of cmpD -/
theorem opr_cmp (hu : X.A.units + 102 < cLine) (op : CmpOp) : OpR X (compareOp op) (rVal X.K (cmpD op)) := by
  intro pins s σ H x y v u Q I rx ry h
  cases op with
  | In => exact op_in_all hu pins s σ H x y v u Q I rx ry (by obtain ⟨W, S, a, b, d, va, vb, hd, q⟩ := h; exact ⟨W, S, a, b, d, va, vb, by simpa [cmpD] using hd, q⟩)
  | NotIn => exact op_notIn_all hu pins s σ H x y v u Q I rx ry (by obtain ⟨W, S, a, b, d, va, vb, hd, q⟩ := h; exact ⟨W, S, a, b, d, va, vb, by simpa [cmpD] using hd, q⟩)
  | Eq =>
    obtain ⟨W, S, a, b, d, va, vb, hd, q⟩ := h
    have hd' : (if okEq a b = true then some (D.bl (eqD a b)) else none) = some d := by simpa [cmpD] using hd
    split at hd'
    · rename_i hok
      cases hd'
      obtain ⟨h1, h2, h3⟩ := okEq_p hok
      obtain ⟨as, r1⟩ := va.reads I rx h1
      obtain ⟨bs, r2⟩ := vb.reads I ry h2
      exact SeqAt.compareEq_reads r1 r2 h1 h2 (by have : min (toPD a).depth (toPD b).depth ≤ 100 := h3; omega) ⟨.bl _, H, I, rfl, q _ (.bl _)⟩
    · cases hd'
  | NotEq =>
    obtain ⟨W, S, a, b, d, va, vb, hd, q⟩ := h
    have hd' : (if okEq a b = true then some (D.bl (!eqD a b)) else none) = some d := by simpa [cmpD] using hd
    split at hd'
    · rename_i hok
      cases hd'
      obtain ⟨h1, h2, h3⟩ := okEq_p hok
      obtain ⟨as, r1⟩ := va.reads I rx h1
      obtain ⟨bs, r2⟩ := vb.reads I ry h2
      exact SeqAt.compareNe_reads r1 r2 h1 h2 (by have : min (toPD a).depth (toPD b).depth ≤ 100 := h3; omega) ⟨.bl _, H, I, rfl, q _ (.bl _)⟩
    · cases hd'
  | Lt =>
    obtain ⟨W, S, a, b, d, va, vb, hd, q⟩ := h
    cases a <;> cases b <;> simp only [cmpD] at hd <;> try contradiction
    · rename_i i j
      cases hd
      obtain rfl := va.int
      obtain rfl := vb.int
      exact op_lt pins s σ H _ _ v u Q I rx ry ⟨i, j, rfl, rfl, q _ (.bl _)⟩
    · rename_i i j
      cases hd
      obtain rfl := va.str
      obtain rfl := vb.str
      exact op_lt_str pins s σ H _ _ v u Q I rx ry ⟨i, j, rfl, rfl, q _ (.bl _)⟩
  | LtE =>
    obtain ⟨W, S, a, b, d, va, vb, hd, q⟩ := h
    cases a <;> cases b <;> simp only [cmpD] at hd <;> try contradiction
    rename_i i j
    cases hd
    obtain rfl := va.int
    obtain rfl := vb.int
    exact op_le pins s σ H _ _ v u Q I rx ry ⟨i, j, rfl, rfl, q _ (.bl _)⟩
  | Gt =>
    obtain ⟨W, S, a, b, d, va, vb, hd, q⟩ := h
    cases a <;> cases b <;> simp only [cmpD] at hd <;> try contradiction
    rename_i i j
    cases hd
    obtain rfl := va.int
    obtain rfl := vb.int
    exact op_gt pins s σ H _ _ v u Q I rx ry ⟨i, j, rfl, rfl, q _ (.bl _)⟩
  | GtE =>
    obtain ⟨W, S, a, b, d, va, vb, hd, q⟩ := h
    cases a <;> cases b <;> simp only [cmpD] at hd <;> try contradiction
    rename_i i j
    cases hd
    obtain rfl := va.int
    obtain rfl := vb.int
    exact op_ge pins s σ H _ _ v u Q I rx ry ⟨i, j, rfl, rfl, q _ (.bl _)⟩
  | Is =>
    obtain ⟨W, S, a, b, d, va, vb, hd, q⟩ := h
    cases b with
    | non =>
      have e : some (D.bl (isNon a)) = some d := by cases a <;> simpa [cmpD] using hd
      cases e
      obtain rfl := vb.non
      refine op_isN pins s σ H _ _ v u Q I rx ry ⟨rfl, ?_⟩
      have e2 : decide (x = V.non) = isNon a := by
        by_cases h0 : a = .non
        · subst h0
          rw [va.non]
          rfl
        · rw [decide_eq_false fun z => h0 (va.ne_non.mp z)]
          cases a <;> first | rfl | exact absurd rfl h0
      rw [e2]
      exact q _ (.bl _)
    | bl b =>
      cases a <;> simp only [cmpD] at hd <;> try contradiction
      rename_i b'
      cases hd
      obtain rfl := va.bl
      obtain rfl := vb.bl
      exact op_isBl pins s σ H _ _ v u Q I rx ry ⟨b', b, rfl, rfl, q _ (.bl _)⟩
    | _ => cases a <;> simp [cmpD] at hd
  | IsNot =>
    obtain ⟨W, S, a, b, d, va, vb, hd, q⟩ := h
    cases b with
    | non =>
      have e : some (D.bl (!isNon a)) = some d := by cases a <;> simpa [cmpD] using hd
      cases e
      obtain rfl := vb.non
      refine op_notN pins s σ H _ _ v u Q I rx ry ⟨rfl, ?_⟩
      have e2 : decide (x = V.non) = isNon a := by
        by_cases h0 : a = .non
        · subst h0
          rw [va.non]
          rfl
        · rw [decide_eq_false fun z => h0 (va.ne_non.mp z)]
          cases a <;> first | rfl | exact absurd rfl h0
      rw [e2]
      exact q _ (.bl _)
    | bl b =>
      cases a <;> simp only [cmpD] at hd <;> try contradiction
      rename_i b'
      cases hd
      obtain rfl := va.bl
      obtain rfl := vb.bl
      exact op_notBl pins s σ H _ _ v u Q I rx ry ⟨b', b, rfl, rfl, q _ (.bl _)⟩
    | _ => cases a <;> simp [cmpD] at hd
end

/-! ### items and slices -/
def ixD : D → D → Option D
  | .lst ds, .int i => atI ds i
  | .tup ds, .int i => atI ds i
  | .str z, .int i => if z.length ≤ LIM then (atI z.cps.toList i).map fun c => .str ⟨#[c]⟩ else none
  | .dic kvs, k => (keyOf k).bind fun _ => dGet kvs k
  | _, _ => none
def cutD {α : Type} (xs : List α) (lo hi : Option Int) : List α := (xs.drop (HT.sIx xs.length 0 lo)).take (HT.sIx xs.length xs.length hi - HT.sIx xs.length 0 lo)
def slD : D → Option Int → Option Int → Option D
  | .lst ds, lo, hi => some (.lst (cutD ds lo hi))
  | .tup ds, lo, hi => some (.tup (cutD ds lo hi))
  | _, _, _ => none
theorem RepL.atI {K : PySem.W.Frag} {S : AS} {H : Hp} {ds : List D} {vs : List V} {i : Int} {d : D} (r : RepL K S H ds vs) (h : L2.atI ds i = some d) : ∃ v, L2.atI vs i = some v ∧ Rep K S H d v := by
  unfold L2.atI at h ⊢
  rw [← r.length]
  cases e : ixN ds.length i with
  | none => rw [e] at h; cases h
  | some j =>
    rw [e] at h
    exact r.get h
theorem RepL.cut {K : PySem.W.Frag} {S : AS} {H : Hp} {ds : List D} {vs : List V} (r : RepL K S H ds vs) (lo hi : Option Int) : RepL K S H (cutD ds lo hi) (cutV vs lo hi) := by
  unfold cutD cutV
  rw [r.length]
  exact (r.drop _).take _
theorem cutD_whole {α : Type} {ds : List α} {lo hi : Option Int} (h : HT.sIx ds.length 0 lo = 0 ∧ HT.sIx ds.length ds.length hi = ds.length) : cutD ds lo hi = ds := by
  unfold cutD
  rw [h.1, h.2]
  simp
section
variable {X : Cx}
/-- a view subscripted: the item, the heap as it is -/
theorem ixr_all (hu : X.A.units + 102 < cLine) : IxR X (rVal X.K ixD) := by
  intro value slice pins s σ H x y v u Q I rx ry h hs
  obtain ⟨W, S, a, b, d, va, vb, hd, q⟩ := h
  cases a with
  | lst ds =>
    cases b <;> simp only [ixD] at hd <;> try contradiction
    rename_i i
    obtain ⟨p, xs, rfl, h1, r⟩ := va.lst
    obtain rfl := vb.int
    obtain ⟨w, h2, h3⟩ := r.atI hd
    exact ix_list value slice pins s σ H _ _ v u Q I rx ry ⟨p, xs, i, w, rfl, rfl, h1, h2, q _ h3⟩ hs
  | tup ds =>
    cases b <;> simp only [ixD] at hd <;> try contradiction
    rename_i i
    obtain ⟨p, xs, rfl, h1, r⟩ := va.tup
    obtain rfl := vb.int
    obtain ⟨w, h2, h3⟩ := r.atI hd
    exact ix_tup value slice pins s σ H _ _ v u Q I rx ry ⟨p, xs, i, w, rfl, rfl, h1, h2, q _ h3⟩ hs
  | str z =>
    cases b <;> simp only [ixD] at hd <;> try contradiction
    rename_i i
    split at hd
    · rename_i hz
      obtain rfl := va.str
      obtain rfl := vb.int
      cases e : atI z.cps.toList i with
      | none => rw [e] at hd; cases hd
      | some c =>
        rw [e] at hd
        cases hd
        exact ix_str value slice pins s σ H _ _ v u Q I rx ry ⟨z, i, c, rfl, rfl, by rw [lim_eq]; exact hz, e, q _ (.str _)⟩ hs
    · cases hd
  | dic kvs =>
    cases ek : keyOf b with
    | none => simp [ixD, ek] at hd
    | some ky =>
      have hd' : dGet kvs b = some d := by simpa [ixD, ek] using hd
      obtain ⟨p, ks, rfl, hp, rk, nd⟩ := va.dic
      obtain rfl := vb.key ek
      have ea := keyOf_some ek
      subst ea
      obtain rfl : v = Value.ref p := rx
      rcases rk.val ky with ⟨h1, _⟩ | ⟨d', v', h1, h2, h3⟩
      · rw [h1] at hd'; cases hd'
      · rw [h1] at hd'
        cases hd'
        have g : DGet H p (kV ky) (some v') := by rw [← h2]; exact DGet.k hp
        refine tail_any (dict_typeIs I g) PySem.F.slot_dict_getitem.lookup ?_ hs
        exact d_getItem (by omega) I g ry fun w' s' I' r' => ⟨v', H, I', r', q _ h3⟩
  | _ => cases b <;> simp [ixD] at hd
end
end Rf

set_option maxRecDepth 100000
set_option maxHeartbeats 1000000
/-! Rs1: sorted(..) of a tuple of texts that stand in order already. -/
namespace Rf
open PySem PySem.Spec PyProof.Rows L2

theorem ltC_tri : ∀ {a b : List Nat}, ltCps a b = false → ltCps b a = false → a = b
  | [], [], _, _ => rfl
  | [], _ :: _, h, _ => by cases h
  | _ :: _, [], _, h => by cases h
  | x :: r, y :: t, h1, h2 => by
    simp only [ltCps, Bool.or_eq_false_iff, Bool.and_eq_false_iff, decide_eq_false_iff_not] at h1 h2
    have e : x = y := by omega
    subst e
    have g1 : ltCps r t = false := by simpa using h1.2
    have g2 : ltCps t r = false := by simpa using h2.2
    rw [ltC_tri g1 g2]
theorem ltC_le {a b c : List Nat} (h1 : ltCps b a = false) (h2 : ltCps c b = false) : ltCps c a = false := by
  rw [ltCps_eq, decide_eq_false_iff_not] at *
  exact List.not_lt.mpr (List.le_trans (List.not_lt.mp h1) (List.not_lt.mp h2))
theorem srtS_pair : ∀ {x : Str} {r : List Str}, risingS x r = true → (x :: r).Pairwise fun a b => ltCps b.cps.toList a.cps.toList = false
  | x, [], _ => List.pairwise_singleton _ _
  | x, y :: r, h => by
    have h : (!ltCps y.cps.toList x.cps.toList && risingS y r) = true := h
    rw [Bool.and_eq_true, Bool.not_eq_true'] at h
    have q := srtS_pair h.2
    refine List.pairwise_cons.mpr ⟨fun z hz => ?_, q⟩
    rcases List.mem_cons.mp hz with rfl | hz
    · exact h.1
    · exact ltC_le h.1 (List.rel_of_pairwise_cons q hz)
theorem srtS_pw : ∀ {xs : List Str}, sortedS xs = true → xs.Pairwise fun a b => ltCps b.cps.toList a.cps.toList = false
  | [], _ => List.Pairwise.nil
  | _ :: _, h => srtS_pair h
theorem srtS_is {ys xs : List Str} (hp : ys.Perm xs) (h1 : sortedS ys = true) (h2 : sortedS xs = true) : ys = xs := by
  refine hp.eq_of_pairwise (fun a b _ _ p q => ?_) (srtS_pw h1) (srtS_pw h2)
  have e : a.cps.toList = b.cps.toList := ltC_tri q p
  have e2 : a.cps = b.cps := Array.toList_inj.mp e
  cases a; cases b; cases e2; rfl

section
variable {X : Cx}
/-- the items of a tuple, collected -/
theorem collectT {prog : Program} {w : World} {A : Around} {E : Value → Shared → Prop} {s : Shared} {l : Addr} {vs : List Value} {Q : List Value → Shared → Prop} (hl : IsTup s.heap l vs.toArray) (hsz : vs.length ≤ sizeLine)
    (h : Q vs { s with heap := (s.heap.push (seqObj "list" #[] 0)).update s.heap.objs.size (Obj.mapSeq (· ++ vs.toArray)) }) :
    wpAny (model prog w) A (collect (.ref l)) Q E s := by
  obtain ⟨o, ho, hc, n, hd⟩ := hl
  have ho' : (s.heap.push (seqObj "list" #[] 0)).get? l = some o := Heap.get?_push_of_some _ ho
  have hn : (s.heap.push (seqObj "list" #[] 0)).get? s.heap.objs.size = some (seqObj "list" #[] 0) := Heap.get?_push_size _ rfl
  unfold collect
  refine wpAny_bind (wpAny_runValue (codeAny_builtin entry_proto_collect' ?_))
  show wpAny _ _ (do again (.builtin "list.__iadd__" ⟨[← newList [], .ref l], []⟩)) _ _ s
  refine wpAny_bind (wpAny_newList (wpAny_pure ⟨Code.quiet_builtin _ (by decide +kernel), codeAny_builtin entry_list_iadd' ?_⟩))
  show wpAny _ _ (Builtin.List.listExtendWith (.ref s.heap.objs.size) (.ref l) (.ref s.heap.objs.size)) _ _ { s with heap := s.heap.push (seqObj "list" #[] 0) }
  unfold Builtin.List.listExtendWith
  refine wpAny_bind (wpAny_typeOf (T := "tuple") ⟨o, ho', hc⟩ ?_)
  rw [if_pos (by rw [show (Value.type "tuple" == Value.type "tuple") = true from rfl]; simp)]
  refine wpAny_bind (listItems_at ho' hd ?_)
  refine wpAny_bind (listItems_at (xs := #[]) (n := 0) hn rfl ?_)
  rw [if_neg (by simp)]
  refine wpAny_bind (listUpdate_at (xs := #[]) (n := 0) hn rfl ?_ (Nat.zero_le _) (by show (#[] ++ vs.toArray).size ≤ sizeLine + 1; simp only [Array.size_append, List.size_toArray, List.length_nil]; omega))
  refine wpAny_pure ?_
  refine wpAny_bind (wpAny_load (get?_update_seq hn _) ?_)
  show wpAny _ _ (pure ((#[] : Array Value) ++ vs.toArray).toList) Q E _
  rw [show ((#[] : Array Value) ++ vs.toArray).toList = vs by simp]
  exact wpAny_pure h
/-- sorted(t) -/
def rSortTS (K : PySem.W.Frag) : List V → Hp → VK → Prop := fun vs H Q => ∃ (a : Addr) (xs : List Str), vs = [V.ref a] ∧ SqT K H a (xs.map V.str) ∧ xs.length < 64 ∧ sortedS xs = true ∧
  ∀ p : Addr, H p = none → Q (.ref p) (upd H p (.lst (xs.map V.str)))
theorem cr_sortTS : CallR X (.builtin "sorted") (rSortTS X.K) := by
  intro pins s σ H vs us Q I r h
  obtain ⟨a, xs, rfl, ht, h64, hso, q⟩ := h
  obtain ⟨its, rv, hl, _⟩ := I.tuple ht
  rw [Vals.ref1 r]
  have hlen0 : its.length < 64 := by
    have := rv.length
    rw [List.length_map] at this
    omega
  have hS := rv.strs
  refine Calls.call_function_entry PyProof.Rows.kind_sorted PyProof.Rows.plain_sorted PyProof.Rows.entry_sorted (PyProof.Rows.args_sorted1 _) ?_
  unfold Builtin.«sorted»
  refine wpAny_bind (m := checkCount "sorted" 1 1 _) (wpAny_pure ?_)
  refine wpAny_bind (collectT hl (by rw [sizeLine_eq]; omega) ?_)
  refine wpAny_bind (wpAny_newList ?_ (by rw [sizeLine_eq]; omega))
  have hsz : ((s.heap.push (seqObj "list" #[] 0)).update s.heap.objs.size (Obj.mapSeq (· ++ its.toArray))).objs.size = s.heap.objs.size + 1 := by
    rw [Heap.size_update, size_push']
  have hoL : (((s.heap.push (seqObj "list" #[] 0)).update s.heap.objs.size (Obj.mapSeq (· ++ its.toArray))).push (seqObj "list" its.toArray 0)).get? (s.heap.objs.size + 1) = some (seqObj "list" its.toArray 0) := by
    rw [← hsz]; exact Heap.get?_push_size _ rfl
  show wpAny _ _ _ _ _ { s with heap := ((s.heap.push (seqObj "list" #[] 0)).update s.heap.objs.size (Obj.mapSeq (· ++ its.toArray))).push (seqObj "list" its.toArray 0) }
  rw [hsz]
  refine wpAny_bind (wpAny_holding (wpAny_call_entry slot_list_sort ⟨_, hoL, rfl⟩ entry_list_sort (list_sort_treeK strKind_oneLt hoL hS.keysOf (fun v₁ v₂ rest e => keyKind_strs (by rw [← e]; exact hS)) hlen0 fun st' hp hs => ⟨_, rfl, ?_⟩) (args_list_sort _)))
  obtain ⟨ys, h1, h2, h3⟩ := sorted_out_str hS hp hs
  obtain rfl := srtS_is h2 h3 hso
  obtain ⟨ep, he'⟩ := PyProof.Rows.sortedAll_at s.heap its ((arrOf st').map (·.2))
  have hlen : (ys.map V.str).length ≤ sizeLine := by rw [List.length_map]; exact small64 h64
  exact wpAny_pure ⟨_, rfl, .ref _, upd H (s.heap.objs.size + 1) (.lst (ys.map V.str)), I.laid (t' := s.toks) (fun _ _ => PyProof.Rows.sortedAll_old) (Nat.le_succ _) ⟨hlen, ((arrOf st').map (·.2)).toList, ep, vals_of_strs h1, by rw [Array.toArray_toList]; exact he'⟩, rfl, q _ (I.hok.fresh (Nat.le_succ _))⟩
end
end Rf

set_option maxRecDepth 100000
set_option maxHeartbeats 1000000
/-! Rs2: a dict's pair put in; dict(..) of a list of pairs. -/
namespace Rf
open PySem PySem.Spec PyProof.Rows L2
variable {X : Cx} {S : AS}
def dPut (kvs : List (D × D)) (k v : D) : List (D × D) :=
  if (kvs.any fun p => keyEq p.1 k) = true then kvs.map fun p => if keyEq p.1 k = true then (p.1, v) else p else kvs ++ [(k, v)]
theorem RepK.put {K : PySem.W.Frag} {H : Hp} {k : Key} {d : D} {v : V} (r : Rep K S H d v) {ds : List (D × D)} {vs : List (Key × V)} (h : RepK K S H ds vs) : RepK K S H (dPut ds (keyD k) d) (putK vs k v) := by
  have any_eq : ∀ {ds : List (D × D)} {vs : List (Key × V)}, RepK K S H ds vs → (ds.any fun p => keyEq p.1 (keyD k)) = vs.any fun kv => decide (kv.1 = k) := by
    intro ds vs h
    induction h with
    | nil => rfl
    | cons a b ih => rw [List.any_cons, List.any_cons, ih, keyEq_k]
  have mp : ∀ {ds : List (D × D)} {vs : List (Key × V)}, RepK K S H ds vs → RepK K S H (ds.map fun p => if keyEq p.1 (keyD k) = true then (p.1, d) else p) (vs.map fun kv => if kv.1 = k then (kv.1, v) else kv) := by
    intro ds vs h
    induction h with
    | nil => exact .nil
    | @cons k' d' v' _ _ a b ih =>
      rw [List.map_cons, List.map_cons]
      by_cases z : k' = k
      · subst z
        simp only [keyEq_k, decide_true, if_true]
        exact .cons r ih
      · simp only [keyEq_k, decide_eq_false z, Bool.false_eq_true, if_false, if_neg z]
        exact .cons a ih
  have ap : ∀ {ds : List (D × D)} {vs : List (Key × V)}, RepK K S H ds vs → RepK K S H (ds ++ [(keyD k, d)]) (vs ++ [(k, v)]) := by
    intro ds vs h
    induction h with
    | nil => exact .cons r .nil
    | cons a b ih => exact .cons a ih
  unfold dPut putK
  rw [any_eq h]
  split
  · exact mp h
  · exact ap h
theorem RepK.len {K : PySem.W.Frag} {H : Hp} : ∀ {ds : List (D × D)} {vs : List (Key × V)}, RepK K S H ds vs → ds.length = vs.length
  | _, _, .nil => rfl
  | _, _, .cons _ b => by rw [List.length_cons, List.length_cons, b.len]
theorem putK_nodup {vs : List (Key × V)} {k : Key} {v : V} (h : (vs.map (·.1)).Nodup) : ((putK vs k v).map (·.1)).Nodup := by
  unfold putK
  split
  · have : (vs.map fun kv => if kv.1 = k then (kv.1, v) else kv).map (·.1) = vs.map (·.1) := by
      rw [List.map_map]
      apply List.map_congr_left
      intro a _
      simp only [Function.comp]
      split <;> rfl
    rw [this]
    exact h
  · rename_i hn
    rw [List.map_append, List.map_singleton]
    refine List.nodup_append.mpr ⟨h, by simp, fun a ha b hb => ?_⟩
    rw [List.mem_singleton.mp hb]
    intro e
    subst e
    obtain ⟨q, hq, e⟩ := List.mem_map.mp ha
    exact hn (List.any_eq_true.mpr ⟨q, hq, decide_eq_true e⟩)
/-- the pairs of a list of pairs -/
def prsOf : List D → Option (List (D × D))
  | [] => some []
  | .tup [k, v] :: r => (keyOf k).bind fun _ => (prsOf r).map ((k, v) :: ·)
  | _ => none
def dctOf (ps : List (D × D)) : List (D × D) := ps.foldl (fun a p => dPut a p.1 p.2) []
theorem RepL.prs {K : PySem.W.Frag} {H : Hp} : ∀ {ds : List D} {vs : List V} {ps : List (D × D)}, RepL K S H ds vs → prsOf ds = some ps →
    ∃ (as : List Addr) (kvs : List (Key × V)), vs = as.map V.ref ∧ Paired (fun p kv => SqT K H p [kV kv.1, kv.2]) as kvs ∧ RepK K S H ps kvs
  | [], _, ps, r, h => by
    cases r
    cases h
    exact ⟨[], [], rfl, .nil, .nil⟩
  | d :: ds, _, ps, r, h => by
    cases r with
    | @cons _ _ v vs r rr =>
      unfold prsOf at h
      split at h
      · rename_i he
        cases he
      · rename_i k w rest he
        cases he
        obtain ⟨ky, hk, h⟩ := Option.bind_eq_some_iff.mp h
        obtain ⟨ps', h', rfl⟩ := Option.map_eq_some_iff.mp h
        obtain ⟨as, kvs, rfl, hp, rk⟩ := RepL.prs rr h'
        have ek := keyOf_some hk
        subst ek
        cases r with
        | @tup a xs _ hq r1 =>
          cases r1 with
          | cons ra r2 =>
            cases r2 with
            | cons rb r3 =>
              cases r3
              rename_i va vb
              have e1 : va = kV ky := Vw.key (W := fun _ => False) (.inl ra) hk
              subst e1
              exact ⟨a :: as, (ky, vb) :: kvs, rfl, .cons hq hp, .cons rb rk⟩
      · cases h
theorem RepK.merge {K : PySem.W.Frag} {H : Hp} : ∀ {ps : List (D × D)} {kvs : List (Key × V)} {ds : List (D × D)} {vs : List (Key × V)}, RepK K S H ps kvs → RepK K S H ds vs → (vs.map (·.1)).Nodup →
    RepK K S H (ps.foldl (fun a p => dPut a p.1 p.2) ds) (mergeK vs kvs) ∧ ((mergeK vs kvs).map (·.1)).Nodup
  | _, _, _, _, .nil, h, n => ⟨h, n⟩
  | _, _, ds, vs, .cons (k := k) (d := d) (v := v) (ds := ps) (vs := kvs) a b, h, n => by
    rw [List.foldl_cons]
    show RepK K S H _ (mergeK (putK vs k v) kvs) ∧ ((mergeK (putK vs k v) kvs).map (·.1)).Nodup
    exact RepK.merge (ps := ps) (kvs := kvs) b (RepK.put a h) (putK_nodup n)
theorem RepK.newP {K : PySem.W.Frag} {H : Hp} {ds : List (D × D)} {xs : List (Key × V)} {p : Addr} {o : HO} (h : RepK K S H ds xs) (hn : H p = none) : RepK K (plusA S p) (upd H p o) ds xs :=
  (h.avoid (S' := plusA S p) fun b z => z.elim .inl fun e => .inr (by rw [e]; exact hn)).kp (W := fun _ => False) (Kp.ext (Ext.new hn)) fun _ z => z.elim
theorem call_dct (hc : X.calm = true) : CallR X (.type "dict") (fun xs H Q => ∃ (S : AS) (a : Addr) (ys : List V) (ds : List D) (ps : List (D × D)), xs = [.ref a] ∧ SqL X.K H a ys ∧ RepL X.K S H ds ys ∧ prsOf ds = some ps ∧
    ∀ v H', Ext H H' → Fr X.K S H H' (.dic (dctOf ps)) v → Q v H') := by
  intro pins s σ H xs us Q I r h
  obtain ⟨S, a, ys, ds, ps, rfl, hq, rl, hp, q⟩ := h
  obtain ⟨as, kvs, rfl, hpr, rk⟩ := rl.prs hp
  refine call_dictP hc pins s σ H _ us Q I r ⟨a, as, kvs, rfl, hq, hpr, fun p hn => ?_⟩
  obtain ⟨r1, n1⟩ := RepK.merge (ds := []) (vs := []) rk .nil List.nodup_nil
  exact q _ _ (Ext.new hn) ⟨p, rfl, hn, mergeK [] kvs, upd_same, r1.newP hn, n1⟩
end Rf

set_option maxRecDepth 100000
set_option maxHeartbeats 1000000
/-! Rf4: slices, built-in functions over plain data. -/
namespace Rf
open PySem PySem.Spec PyProof.Rows L2

section
variable {X : Cx}
/-- a view's slice -/
theorem slr_all : SlR X (fun x lo hi H Q => ∃ (W S : AS) (a d : D), Vw X.K W S H a x ∧ slD a lo hi = some d ∧ ∀ v H', Ext H H' → Fr X.K S H H' d v → Q v H') := by
  intro pins s σ H x v vl vu lo hi sl Q I rx hs pl pu h
  obtain ⟨W, S, a, d, va, hd, q⟩ := h
  have no : ∀ b, (fun (_ : Addr) => False) b → S b := fun b z => z.elim
  cases a <;> simp only [slD] at hd <;> try contradiction
  · rename_i ds
    cases hd
    obtain ⟨p, xs, rfl, h1, r⟩ := va.tup
    refine sl_tupA pins s σ H _ v vl vu lo hi sl Q I rx hs pl pu ⟨p, xs, rfl, h1, fun hw => ?_, fun _ t ht => ?_⟩
    · rw [← r.length] at hw
      refine q _ _ (Ext.refl _) ?_
      rw [cutD_whole hw]
      exact .tup h1 r
    · exact q _ _ (Ext.new ht) (.tup (SqT.of upd_same) ((r.cut lo hi).kp (Kp.ext (Ext.new ht)) no))
  · rename_i ds
    cases hd
    obtain ⟨p, xs, rfl, h1, r⟩ := va.lst
    exact sl_list pins s σ H _ v vl vu lo hi sl Q I rx hs pl pu ⟨p, xs, rfl, h1, fun t ht => q _ _ (Ext.new ht) ⟨t, rfl, ht, _, upd_same, (r.cut lo hi).newP ht⟩⟩
end

/-! ### lists of ints, of texts, of truths -/
def intsOf : List D → Option (List Int)
  | [] => some []
  | .int i :: r => (intsOf r).map (i :: ·)
  | _ => none
def strsOf : List D → Option (List Str)
  | [] => some []
  | .str i :: r => (strsOf r).map (i :: ·)
  | _ => none
def blsOf : List D → Option (List Bool)
  | [] => some []
  | .bl i :: r => (blsOf r).map (i :: ·)
  | _ => none
theorem intsOf_map : ∀ ns : List Int, intsOf (ns.map D.int) = some ns
  | [] => rfl
  | n :: r => by simp [intsOf, intsOf_map r]
theorem strsOf_map : ∀ ns : List Str, strsOf (ns.map D.str) = some ns
  | [] => rfl
  | n :: r => by simp [strsOf, strsOf_map r]
theorem blsOf_map : ∀ ns : List Bool, blsOf (ns.map D.bl) = some ns
  | [] => rfl
  | n :: r => by simp [blsOf, blsOf_map r]
theorem intsOf_eq : ∀ {ds : List D} {ns : List Int}, intsOf ds = some ns → ds = ns.map D.int
  | [], ns, h => by cases h; rfl
  | d :: r, ns, h => by
    cases d <;> simp only [intsOf] at h <;> try contradiction
    rename_i i
    cases e : intsOf r with
    | none => rw [e] at h; cases h
    | some m => rw [e] at h; cases h; rw [intsOf_eq e]; rfl
theorem strsOf_eq : ∀ {ds : List D} {ns : List Str}, strsOf ds = some ns → ds = ns.map D.str
  | [], ns, h => by cases h; rfl
  | d :: r, ns, h => by
    cases d <;> simp only [strsOf] at h <;> try contradiction
    rename_i i
    cases e : strsOf r with
    | none => rw [e] at h; cases h
    | some m => rw [e] at h; cases h; rw [strsOf_eq e]; rfl
theorem blsOf_eq : ∀ {ds : List D} {ns : List Bool}, blsOf ds = some ns → ds = ns.map D.bl
  | [], ns, h => by cases h; rfl
  | d :: r, ns, h => by
    cases d <;> simp only [blsOf] at h <;> try contradiction
    rename_i i
    cases e : blsOf r with
    | none => rw [e] at h; cases h
    | some m => rw [e] at h; cases h; rw [blsOf_eq e]; rfl
theorem RepL.ints {K : PySem.W.Frag} {S : AS} {H : Hp} : ∀ {ns : List Int} {vs : List V}, RepL K S H (ns.map D.int) vs → vs = ns.map V.int
  | [], _, .nil => rfl
  | n :: r, _, .cons a b => by cases a; rw [RepL.ints b]; rfl
theorem RepL.strs {K : PySem.W.Frag} {S : AS} {H : Hp} : ∀ {ns : List Str} {vs : List V}, RepL K S H (ns.map D.str) vs → vs = ns.map V.str
  | [], _, .nil => rfl
  | n :: r, _, .cons a b => by cases a; rw [RepL.strs b]; rfl
theorem RepL.bls {K : PySem.W.Frag} {S : AS} {H : Hp} : ∀ {ns : List Bool} {vs : List V}, RepL K S H (ns.map D.bl) vs → vs = ns.map V.bl
  | [], _, .nil => rfl
  | n :: r, _, .cons a b => by cases a; rw [RepL.bls b]; rfl
theorem RepL.ofInts {K : PySem.W.Frag} {S : AS} {H : Hp} : ∀ ns : List Int, RepL K S H (ns.map D.int) (ns.map V.int)
  | [] => .nil
  | n :: r => .cons (.int n) (RepL.ofInts r)
theorem RepL.ofStrs {K : PySem.W.Frag} {S : AS} {H : Hp} : ∀ ns : List Str, RepL K S H (ns.map D.str) (ns.map V.str)
  | [] => .nil
  | n :: r => .cons (.str n) (RepL.ofStrs r)

/-! ### least, greatest, sorted -/
def minI : List Int → Int
  | [] => 0
  | [a] => a
  | a :: r => if a ≤ minI r then a else minI r
def maxI : List Int → Int
  | [] => 0
  | [a] => a
  | a :: r => if maxI r ≤ a then a else maxI r
theorem minI_ok : ∀ (l : List Int), l ≠ [] → minI l ∈ l ∧ ∀ y ∈ l, minI l ≤ y
  | [], h => absurd rfl h
  | [a], _ => by simp [minI]
  | a :: b :: r, _ => by
    obtain ⟨h1, h2⟩ := minI_ok (b :: r) (by simp)
    show (if a ≤ minI (b :: r) then a else minI (b :: r)) ∈ a :: b :: r ∧ ∀ y ∈ a :: b :: r, (if a ≤ minI (b :: r) then a else minI (b :: r)) ≤ y
    split
    · rename_i c
      refine ⟨List.mem_cons_self, fun y hy => ?_⟩
      rcases List.mem_cons.mp hy with rfl | hy
      · exact Int.le_refl _
      · exact Int.le_trans c (h2 y hy)
    · rename_i c
      refine ⟨List.mem_cons_of_mem _ h1, fun y hy => ?_⟩
      rcases List.mem_cons.mp hy with rfl | hy
      · omega
      · exact h2 y hy
theorem maxI_ok : ∀ (l : List Int), l ≠ [] → maxI l ∈ l ∧ ∀ y ∈ l, y ≤ maxI l
  | [], h => absurd rfl h
  | [a], _ => by simp [maxI]
  | a :: b :: r, _ => by
    obtain ⟨h1, h2⟩ := maxI_ok (b :: r) (by simp)
    show (if maxI (b :: r) ≤ a then a else maxI (b :: r)) ∈ a :: b :: r ∧ ∀ y ∈ a :: b :: r, y ≤ (if maxI (b :: r) ≤ a then a else maxI (b :: r))
    split
    · rename_i c
      refine ⟨List.mem_cons_self, fun y hy => ?_⟩
      rcases List.mem_cons.mp hy with rfl | hy
      · exact Int.le_refl _
      · exact Int.le_trans (h2 y hy) c
    · rename_i c
      refine ⟨List.mem_cons_of_mem _ h1, fun y hy => ?_⟩
      rcases List.mem_cons.mp hy with rfl | hy
      · omega
      · exact h2 y hy
theorem minI_is {l : List Int} (h : l ≠ []) {m : Int} (h1 : m ∈ l) (h2 : ∀ y, y ∈ l → m ≤ y) : m = minI l :=
  Int.le_antisymm (h2 _ (minI_ok l h).1) ((minI_ok l h).2 m h1)
theorem maxI_is {l : List Int} (h : l ≠ []) {m : Int} (h1 : m ∈ l) (h2 : ∀ y, y ∈ l → y ≤ m) : m = maxI l :=
  Int.le_antisymm ((maxI_ok l h).2 m h1) (h2 _ (maxI_ok l h).1)
/-- put into order -/
def putI (a : Int) : List Int → List Int
  | [] => [a]
  | b :: r => if a ≤ b then a :: b :: r else b :: putI a r
def srtI : List Int → List Int
  | [] => []
  | a :: r => putI a (srtI r)
theorem putI_perm (a : Int) : ∀ l : List Int, (putI a l).Perm (a :: l)
  | [] => .refl _
  | b :: r => by
    show (if a ≤ b then a :: b :: r else b :: putI a r).Perm (a :: b :: r)
    split
    · exact .refl _
    · exact ((putI_perm a r).cons b).trans (.swap a b r)
theorem srtI_perm : ∀ l : List Int, (srtI l).Perm l
  | [] => .refl _
  | a :: r => (putI_perm a (srtI r)).trans ((srtI_perm r).cons a)
theorem putI_ord (a : Int) : ∀ l : List Int, l.Pairwise (· ≤ ·) → (putI a l).Pairwise (· ≤ ·)
  | [], _ => by simp [putI]
  | b :: r, h => by
    obtain ⟨h1, h2⟩ := List.pairwise_cons.mp h
    show (if a ≤ b then a :: b :: r else b :: putI a r).Pairwise (· ≤ ·)
    split
    · rename_i c
      refine List.pairwise_cons.mpr ⟨fun y hy => ?_, h⟩
      rcases List.mem_cons.mp hy with rfl | hy
      · exact c
      · exact Int.le_trans c (h1 y hy)
    · rename_i c
      refine List.pairwise_cons.mpr ⟨fun y hy => ?_, putI_ord a r h2⟩
      rcases List.mem_cons.mp ((putI_perm a r).mem_iff.mp hy) with rfl | hy
      · omega
      · exact h1 y hy
theorem srtI_ord : ∀ l : List Int, (srtI l).Pairwise (· ≤ ·)
  | [] => .nil
  | a :: r => putI_ord a _ (srtI_ord r)
theorem srtI_is {l m : List Int} (h : m.Perm l) (o : m.Pairwise (· ≤ ·)) : m = srtI l := PySem.W.ksm_same (h.trans (srtI_perm l).symm) o (srtI_ord l)

/-! ### built-in functions -/
inductive BI where
  | len | abs | min | max | sum | list | tuple | sorted | all | str | dict
  deriving DecidableEq
def BI.name : BI → Str
  | .len => "len" | .abs => "abs" | .min => "min" | .max => "max" | .sum => "sum" | .list => "list" | .tuple => "tuple" | .sorted => "sorted" | .all => "all" | .str => "str" | .dict => "dict"
def BI.val : BI → Value
  | .len => .builtin "len" | .abs => .builtin "abs" | .min => .builtin "min" | .max => .builtin "max" | .sum => .builtin "sum" | .list => .type "list" | .tuple => .type "tuple" | .sorted => .builtin "sorted" | .all => .builtin "all" | .str => .type "str" | .dict => .type "dict"
def keysI : List (D × D) → Option (List Int)
  | [] => some []
  | (.int i, _) :: r => (keysI r).map (i :: ·)
  | _ => none
def biD : BI → List D → Option D
  | .len, [.str x] => if x.length ≤ LIM then some (.int x.length) else none
  | .len, [.lst ds] => some (.int ds.length)
  | .len, [.tup ds] => some (.int ds.length)
  | .len, [.dic ds] => some (.int ds.length)
  | .abs, [.int i] => some (.int i.natAbs)
  | .min, [.int i, .int j] => some (.int (if j < i then j else i))
  | .max, [.int i, .int j] => some (.int (if j > i then j else i))
  | .min, [.lst ds] => (intsOf ds).bind fun ns => if ns = [] then none else some (.int (minI ns))
  | .max, [.lst ds] => (intsOf ds).bind fun ns => if ns = [] then none else some (.int (maxI ns))
  | .sum, [.lst ds] => (intsOf ds).map fun ns => .int ns.sum
  | .list, [.lst ds] => some (.lst ds)
  | .list, [.tup ds] => some (.lst ds)
  | .tuple, [.lst ds] => some (.tup ds)
  | .tuple, [.tup ds] => some (.tup ds)
  | .sorted, [.lst ds] => (intsOf ds).map fun ns => .lst ((srtI ns).map .int)
  | .sorted, [.dic ds] => (keysI ds).bind fun ns => if ns.length < 64 then some (.lst ((srtI ns).map .int)) else none
  | .sorted, [.tup ds] => (strsOf ds).bind fun xs => if xs.length < 64 ∧ sortedS xs = true then some (.lst (xs.map .str)) else none
  | .dict, [.lst ds] => (prsOf ds).map fun ps => .dic (dctOf ps)
  | .all, [.lst ds] => (blsOf ds).map fun bs => .bl (bs.all id)
  | .str, [.int i] => if i.natAbs.log2 < 1920 then some (.str (toString i)) else none
  | _, _ => none

/-- views of arguments -/
inductive VwL (K : PySem.W.Frag) (W S : AS) (H : Hp) : List D → List V → Prop
  | nil : VwL K W S H [] []
  | cons {d : D} {ds : List D} {v : V} {vs : List V} : Vw K W S H d v → VwL K W S H ds vs → VwL K W S H (d :: ds) (v :: vs)
theorem RepK.keysI {K : PySem.W.Frag} {S : AS} {H : Hp} : ∀ {ds : List (D × D)} {vs : List (Key × V)} {ns : List Int}, RepK K S H ds vs → Rf.keysI ds = some ns → vs.map (·.1) = ns.map Sum.inl
  | _, _, ns, .nil, h => by cases h; rfl
  | _, _, ns, .cons (k := k) (ds := ds) a b, h => by
    cases k with
    | inl i =>
      have h' : (Rf.keysI ds).map (i :: ·) = some ns := h
      cases e : Rf.keysI ds with
      | none => rw [e] at h'; cases h'
      | some m =>
        rw [e] at h'
        cases h'
        rw [List.map_cons, RepK.keysI b e]
        rfl
    | inr x => cases h
theorem RepK.length {K : PySem.W.Frag} {S : AS} {H : Hp} : ∀ {ds : List (D × D)} {vs : List (Key × V)}, RepK K S H ds vs → ds.length = vs.length
  | _, _, .nil => rfl
  | _, _, .cons _ r => congrArg (· + 1) (RepK.length r)
section
variable {X : Cx}
theorem callr_bi (hc : X.calm = true) (b : BI) : CallR X b.val (fun xs H Q => ∃ (W S : AS) (ds : List D) (d : D), VwL X.K W S H ds xs ∧ biD b ds = some d ∧ ∀ v H', Ext H H' → Fr X.K S H H' d v → Q v H') := by
  intro pins s σ H xs us Q I r h
  obtain ⟨W, S, ds, d, va, hd, q⟩ := h
  have no : ∀ b, (fun (_ : Addr) => False) b → S b := fun b z => z.elim
  have rfl' : Ext H H := Ext.refl H
  cases va with
  | nil => cases b <;> simp [biD] at hd
  | cons a1 va =>
    rename_i d1 ds v1 vs
    cases va with
    | nil =>
      cases b with
      | len =>
        cases d1 <;> simp only [biD] at hd <;> try contradiction
        · rename_i x
          split at hd
          · rename_i hz
            cases hd
            obtain rfl := a1.str
            exact call_len pins s σ H _ us Q I r ⟨_, x.length, rfl, ⟨by rw [lim_eq]; exact hz, rfl⟩, q _ _ rfl' (.int _)⟩
          · cases hd
        · rename_i ds
          cases hd
          obtain ⟨p, xs, rfl, h1, r1⟩ := a1.tup
          exact call_len pins s σ H _ us Q I r ⟨_, xs.length, rfl, .inr ⟨xs, h1, rfl⟩, by rw [← r1.length]; exact q _ _ rfl' (.int _)⟩
        · rename_i ds
          cases hd
          obtain ⟨p, xs, rfl, h1, r1⟩ := a1.lst
          exact call_len pins s σ H _ us Q I r ⟨_, xs.length, rfl, .inl ⟨xs, h1, rfl⟩, by rw [← r1.length]; exact q _ _ rfl' (.int _)⟩
        · rename_i ds
          cases hd
          obtain ⟨p, xs, rfl, h1, r1, _⟩ := a1.dic
          exact call_lenD pins s σ H _ us Q I r ⟨p, xs, rfl, h1, by rw [← r1.length]; exact q _ _ rfl' (.int _)⟩
      | abs =>
        cases d1 <;> simp only [biD] at hd <;> try contradiction
        rename_i i
        cases hd
        obtain rfl := a1.int
        refine call_abs pins s σ H _ us Q I r ⟨i, rfl, ?_⟩
        have e : (if i < 0 then -i else i) = (i.natAbs : Int) := by split <;> omega
        rw [e]
        exact q _ _ rfl' (.int _)
      | min =>
        cases d1 <;> simp only [biD] at hd <;> try contradiction
        rename_i ds
        cases e : intsOf ds with
        | none => rw [e] at hd; cases hd
        | some ns =>
          rw [e] at hd
          have hd' : (if ns = [] then none else some (D.int (minI ns))) = some d := hd
          split at hd'
          · cases hd'
          · rename_i hne
            cases hd'
            have := intsOf_eq e
            subst this
            obtain ⟨p, xs, rfl, h1, r1⟩ := a1.lst
            obtain rfl := r1.ints
            refine cr_min hc pins s σ H _ us Q I r ⟨p, ns, rfl, h1, List.length_pos_iff.mpr hne, fun m h2 h3 => ?_⟩
            rw [minI_is hne h2 h3]
            exact q _ _ rfl' (.int _)
      | max =>
        cases d1 <;> simp only [biD] at hd <;> try contradiction
        rename_i ds
        cases e : intsOf ds with
        | none => rw [e] at hd; cases hd
        | some ns =>
          rw [e] at hd
          have hd' : (if ns = [] then none else some (D.int (maxI ns))) = some d := hd
          split at hd'
          · cases hd'
          · rename_i hne
            cases hd'
            have := intsOf_eq e
            subst this
            obtain ⟨p, xs, rfl, h1, r1⟩ := a1.lst
            obtain rfl := r1.ints
            refine cr_max hc pins s σ H _ us Q I r ⟨p, ns, rfl, h1, List.length_pos_iff.mpr hne, fun m h2 h3 => ?_⟩
            rw [maxI_is hne h2 h3]
            exact q _ _ rfl' (.int _)
      | sum =>
        cases d1 <;> simp only [biD] at hd <;> try contradiction
        rename_i ds
        cases e : intsOf ds with
        | none => rw [e] at hd; cases hd
        | some ns =>
          rw [e] at hd
          cases hd
          have := intsOf_eq e
          subst this
          obtain ⟨p, xs, rfl, h1, r1⟩ := a1.lst
          obtain rfl := r1.ints
          exact cr_sum hc pins s σ H _ us Q I r ⟨p, ns, rfl, h1, q _ _ rfl' (.int _)⟩
      | list =>
        cases d1 <;> simp only [biD] at hd <;> try contradiction
        · rename_i ds
          cases hd
          obtain ⟨p, xs, rfl, h1, r1⟩ := a1.tup
          exact call_list_of pins s σ H _ us Q I r ⟨p, xs, rfl, .inr h1, fun t ht => q _ _ (Ext.new ht) ⟨t, rfl, ht, _, upd_same, r1.newP ht⟩⟩
        · rename_i ds
          cases hd
          obtain ⟨p, xs, rfl, h1, r1⟩ := a1.lst
          exact call_list_of pins s σ H _ us Q I r ⟨p, xs, rfl, .inl h1, fun t ht => q _ _ (Ext.new ht) ⟨t, rfl, ht, _, upd_same, r1.newP ht⟩⟩
      | tuple =>
        cases d1 <;> simp only [biD] at hd <;> try contradiction
        · rename_i ds
          cases hd
          obtain ⟨p, xs, rfl, h1, r1⟩ := a1.tup
          exact call_tuple_of pins s σ H _ us Q I r ⟨p, xs, rfl, .inr ⟨h1, q _ _ rfl' (.tup h1 r1)⟩⟩
        · rename_i ds
          cases hd
          obtain ⟨p, xs, rfl, h1, r1⟩ := a1.lst
          exact call_tuple_of pins s σ H _ us Q I r ⟨p, xs, rfl, .inl ⟨h1, fun t ht => q _ _ (Ext.new ht) (.tup (SqT.of upd_same) (r1.kp (Kp.ext (Ext.new ht)) no))⟩⟩
      | sorted =>
        cases d1 <;> simp only [biD] at hd <;> try contradiction
        · rename_i ds
          cases e : strsOf ds with
          | none => rw [e] at hd; cases hd
          | some ns =>
            rw [e] at hd
            have hd' : (if ns.length < 64 ∧ sortedS ns = true then some (D.lst (ns.map .str)) else none) = some d := hd
            split at hd'
            · rename_i hlt
              cases hd'
              obtain ⟨p, xs, rfl, h1, r1⟩ := a1.tup
              have e5 := strsOf_eq e
              subst e5
              have e6 := RepL.strs r1
              subst e6
              exact cr_sortTS pins s σ H _ us Q I r ⟨p, ns, rfl, h1, hlt.1, hlt.2, fun t ht => q _ _ (Ext.new ht) ⟨t, rfl, ht, _, upd_same, r1.newP ht⟩⟩
            · cases hd'
        · rename_i ds
          cases e : intsOf ds with
          | none => rw [e] at hd; cases hd
          | some ns =>
            rw [e] at hd
            cases hd
            have := intsOf_eq e
            subst this
            obtain ⟨p, xs, rfl, h1, r1⟩ := a1.lst
            obtain rfl := r1.ints
            refine cr_sortedI pins s σ H _ us Q I r ⟨p, ns, rfl, h1, fun ns' t hp ho ht => ?_⟩
            rw [srtI_is hp ho]
            exact q _ _ (Ext.new ht) ⟨t, rfl, ht, _, upd_same, RepL.ofInts _⟩
        · rename_i ds
          cases e : keysI ds with
          | none => rw [e] at hd; cases hd
          | some ns =>
            rw [e] at hd
            have hd' : (if ns.length < 64 then some (D.lst ((srtI ns).map .int)) else none) = some d := hd
            split at hd'
            · rename_i hlt
              cases hd'
              obtain ⟨p, xs, rfl, h1, r1, _⟩ := a1.dic
              refine call_sortedDI hc pins s σ H _ us Q I r ⟨p, xs, ns, rfl, .inl h1, r1.keysI e, hlt, fun ns' t hp ho ht => ?_⟩
              rw [srtI_is hp ho]
              exact q _ _ (Ext.new ht) ⟨t, rfl, ht, _, upd_same, RepL.ofInts _⟩
            · cases hd'
      | dict =>
        cases d1 <;> simp only [biD] at hd <;> try contradiction
        rename_i ds
        cases e : prsOf ds with
        | none => rw [e] at hd; cases hd
        | some ps =>
          rw [e] at hd
          cases hd
          obtain ⟨p, xs, rfl, h1, r1⟩ := a1.lst
          exact call_dct hc pins s σ H _ us Q I r ⟨S, p, xs, ds, ps, rfl, h1, r1, e, fun v H' x fr => q v H' x fr⟩
      | all =>
        cases d1 <;> simp only [biD] at hd <;> try contradiction
        rename_i ds
        cases e : blsOf ds with
        | none => rw [e] at hd; cases hd
        | some ns =>
          rw [e] at hd
          cases hd
          have := blsOf_eq e
          subst this
          obtain ⟨p, xs, rfl, h1, r1⟩ := a1.lst
          obtain rfl := r1.bls
          exact cr_all hc pins s σ H _ us Q I r ⟨p, ns, rfl, h1, q _ _ rfl' (.bl _)⟩
      | str =>
        cases d1 <;> simp only [biD] at hd <;> try contradiction
        rename_i i
        split at hd
        · rename_i hz
          cases hd
          obtain rfl := a1.int
          exact call_str_int pins s σ H _ us Q I r ⟨i, rfl, hz, q _ _ rfl' (.str _)⟩
        · cases hd
    | cons a2 va =>
      rename_i d2 ds v2 vs
      cases va with
      | nil =>
        cases b with
        | min =>
          cases d1 <;> cases d2 <;> simp only [biD] at hd <;> try contradiction
          rename_i i j
          cases hd
          obtain rfl := a1.int
          obtain rfl := a2.int
          exact call_min2 hc pins s σ H _ us Q I r ⟨i, j, rfl, q _ _ rfl' (.int _)⟩
        | max =>
          cases d1 <;> cases d2 <;> simp only [biD] at hd <;> try contradiction
          rename_i i j
          cases hd
          obtain rfl := a1.int
          obtain rfl := a2.int
          exact call_max2 hc pins s σ H _ us Q I r ⟨i, j, rfl, q _ _ rfl' (.int _)⟩
        | _ => cases d1 <;> simp [biD] at hd
      | cons a3 va => cases b <;> cases d1 <;> (try cases d2) <;> simp [biD] at hd
end
end Rf

set_option maxRecDepth 100000
set_option maxHeartbeats 1000000
/-! Rf5: a small language of its own, and what its texts are worth over plain data. -/
namespace Rf
open PySem PySem.Spec PyProof.Rows L2

inductive Ty where
  | int | bool | str | tuple | list
  deriving DecidableEq
def Ty.py : Ty → String
  | .int => "int" | .bool => "bool" | .str => "str" | .tuple => "tuple" | .list => "list"
def isiD : D → Ty → Option Bool
  | .non, _ => some false
  | .bl _, .bool => some true
  | .bl _, .int => some true
  | .bl _, _ => some false
  | .int _, .int => some true
  | .int _, _ => some false
  | .str _, .str => some true
  | .str _, _ => some false
  | .tup _, .tuple => some true
  | .tup _, _ => some false
  | .lst _, .list => some true
  | .lst _, _ => some false
  | _, _ => none

/-- targets -/
inductive Tg where
  | nm (i : Nat) | tp (ts : List Tg)

mutual
inductive E where
  | c (d : D) | v (i : Nat) | g (j : Nat)
  | tup (es : Es) | lst (es : Es) | dic
  | bin (op : Operator) (a b : E) | neg (a : E)
  | cmp (op : CmpOp) (a b : E) | chn (o1 o2 : CmpOp) (a b c : E) | chn3 (o1 o2 o3 : CmpOp) (a b c d : E)
  | and (a b : E) | or (a b : E) | not (a : E) | ite (c a b : E)
  | ix (a b : E) | sl (a : E) (lo hi : Eo) | rev (a : E)
  | cix (i : Nat) (b : E) | cin (op : CmpOp) (a : E) (i : Nat)
  | bi (b : BI) (es : Es) | isi (a : E) (t : Ty) | lset (a : E)
  | call (j : Nat) (es : Es) (cs : List Nat)
  | comp (elt : E) (tg : Tg) (it : It) (cs : Es) (own : List Nat)
  | lzip (a b : E)
  | tri (x : E) | fn (j : Nat) (n : Str) | callv (i : Nat) (js : List (Nat × Str)) (es : Es) | lix (es : Es) (x : E)
inductive Es where
  | nil | cons (e : E) (r : Es) | cel (i : Nat) (r : Es)
inductive Eo where
  | no | so (e : E)
inductive It where
  | sq (e : E) | en (e : E) | zp (a b : E) | r1 (a : E) | r2 (a b : E)
end

inductive Sm where
  | set (i : Nat) (e : E) | setO (i : Nat) (e : E) | setC (i : Nat) (e : E) | par (ps : List (Nat × Bool × E)) | unp (tg : Tg) (e : E)
  | aug (i : Nat) (op : Operator) (e : E) | ext (i : Nat) (e : E)
  | appX (x : E) (d : D) | app (i : Nat) (e : E) | ins (i : Nat) (a b : E) | rem (i : Nat) (e : E) | stx (i : Nat) (k v : E)
  | ex (e : E) | ifs (c : E) (a b : List Sm) | ifz (Z : List Nat) (c : E) (a b : List Sm) | fr (tg : Tg) (it : It) (b : List Sm) | wh (c : E) (b : List Sm)
  | dpx (i j : Nat) (es : Es) (Z : List Nat) (c : E) (p : List Sm) | dpn (i : Nat) (es : Es) (ms : List Nat) (Z : List Nat) (c : E) (p : List Sm) | bad
  | ret (Z : List Nat) (e : E) | retN | retO (i : Nat) | rse (j : Nat) | rsf (j : Nat) (e : E) | brk | cnt | pass

/-- an exception: its class by a number, its field -/
structure Exc where
  cls : Nat
  fld : Option D := none
abbrev Envd := List (Option D)
abbrev Rs (α : Type) := Option (Except Exc α × Envd)
inductive Fl where
  | nx | rt (d : D) | bk | ct
structure Gam where
  fn : Nat → List D → List D → Option (Except Exc D × List D)
  gc : Nat → Option D
  tr : Exc → Option Str := fun _ => none

def bnd {α β : Type} (m : Rs α) (k : α → Envd → Rs β) : Rs β :=
  match m with
  | none => none
  | some (.error x, e) => some (.error x, e)
  | some (.ok a, e) => k a e
def pr {α : Type} (o : Option α) (e : Envd) : Rs α :=
  match o with
  | none => none
  | some a => some (.ok a, e)
@[simp] theorem bnd_none {α β : Type} (k : α → Envd → Rs β) : bnd none k = none := rfl
@[simp] theorem bnd_err {α β : Type} (x : Exc) (e : Envd) (k : α → Envd → Rs β) : bnd (some (.error x, e)) k = some (.error x, e) := rfl
@[simp] theorem bnd_ok {α β : Type} (a : α) (e : Envd) (k : α → Envd → Rs β) : bnd (some (.ok a, e)) k = k a e := rfl
@[simp] theorem pr_none {α : Type} (e : Envd) : pr (none : Option α) e = none := rfl
@[simp] theorem pr_some {α : Type} (a : α) (e : Envd) : pr (some a) e = some (.ok a, e) := rfl

def getV (e : Envd) (i : Nat) : Option D := match e[i]? with
  | some o => o
  | none => none
/-- the slots that a call has changed -/
def setCs : List Nat → List D → Envd → Envd
  | i :: is, k :: ks, e => setCs is ks (e.set i (some k))
  | _, _, e => e
def getCs (e : Envd) : List Nat → Option (List D)
  | [] => some []
  | i :: is => match getV e i, getCs e is with
    | some k, some ks => some (k :: ks)
    | _, _ => none
mutual
def asgT : Tg → D → Envd → Option Envd
  | .nm i, d, e => some (e.set i (some d))
  | .tp ts, .tup ds, e => asgTs ts ds e
  | .tp _, _, _ => none
def asgTs : List Tg → List D → Envd → Option Envd
  | [], [], e => some e
  | t :: ts, d :: ds, e => match asgT t d e with
    | some e1 => asgTs ts ds e1
    | none => none
  | _, _, _ => none
end
def wipeE (e : Envd) : List Nat → Envd
  | [] => e
  | v :: vs => (wipeE e vs).set v none
/-- back from a block: its own names as they were -/
def backE (e0 e : Envd) : List Nat → Envd
  | [] => e
  | v :: vs => (backE e0 e vs).set v (getV e0 v)
def compL (own : List Nat) (asg : D → Envd → Option Envd) (cond : Envd → Rs Bool) (elt : Envd → Rs D) : List D → Envd → Option (List D × Envd)
  | [], e => some ([], e)
  | d :: ds, e => match asg d (wipeE e own) with
    | none => none
    | some e1 => match cond e1 with
      | some (.ok true, e2) => (match elt e2 with
        | some (.ok x, e3) => (match compL own asg cond elt ds e3 with
          | some (xs, e4) => some (x :: xs, e4)
          | none => none)
        | _ => none)
      | some (.ok false, e2) => compL own asg cond elt ds e2
      | _ => none
def itemsD : D → Option (List D)
  | .lst ds => some ds
  | .tup ds => some ds
  | .str x => if x.cps.size ≤ LIM then some (x.cps.toList.map fun c => .str ⟨#[c]⟩) else none
  | _ => none
def enumF : Nat → List D → List D
  | _, [] => []
  | i, d :: ds => .tup [.int i, d] :: enumF (i + 1) ds
def zipF : List D → List D → List D
  | x :: xs, y :: ys => .tup [x, y] :: zipF xs ys
  | _, _ => []
def zipD : D → D → Option (List D)
  | .lst a, .lst b => some (zipF a b)
  | .tup a, .tup b => some (zipF a b)
  | _, _ => none
def enumD : D → Option (List D)
  | .lst ds => some (enumF 0 ds)
  | .tup ds => some (enumF 0 ds)
  | _ => none
def rngF (lo : Int) : Nat → List D
  | 0 => []
  | n + 1 => .int lo :: rngF (lo + 1) n
/-- (the decision by choice, so that the kernel never tries it) -/
noncomputable def rngD : D → D → Option (List D)
  | .int i, .int j => @ite _ (-(2 ^ 62) ≤ i ∧ i < 2 ^ 62 ∧ -(2 ^ 62) ≤ j ∧ j < 2 ^ 62 ∧ (j - i).toNat ≤ LIM) (Classical.propDecidable _) (some (rngF i (j - i).toNat)) none
  | _, _ => none
def blD : D → Option Bool
  | .bl b => some b
  | _ => none
/-- the item of a display at a place -/
def atD : List D → D → Option D
  | ds, .int i => L2.atI ds i
  | _, _ => none
/-- list(zip(a, b)) of lists -/
def lzD : D → D → Option D
  | .lst a, .lst b => some (.lst (zipF a b))
  | _, _ => none
/-- tuples of ints -/
def tupsOf : List D → Option (List (List Int))
  | [] => some []
  | .tup xs :: ds => match intsOf xs, tupsOf ds with
    | some ns, some ks => some (ns :: ks)
    | _, _ => none
  | _ :: _ => none
/-- each once -/
def ddL : List (List Int) → List (List Int)
  | [] => []
  | k :: r => if k ∈ r then ddL r else k :: ddL r
/-- len(set(xs)) of fewer than 64 tuples of ints -/
def lsetD : D → Option D
  | .lst ds => match tupsOf ds with
    | some ks => if ks.length < 64 then some (.int (ddL ks).length) else none
    | none => none
  | _ => none

/-- which def a value is -/
def fnAt (js : List (Nat × Str)) : D → Option Nat
  | .fn n => (js.find? fun p => decide (p.2 = n)).map (·.1)
  | _ => none
/-- a comparison's answer, as a truth -/
def tst (r : Rs D) : Rs Bool := bnd r fun d e => pr (blD d) e

variable (G : Gam)
mutual
noncomputable def denE : E → Envd → Rs D
  | .c d, e => some (.ok d, e)
  | .v i, e => pr (getV e i) e
  | .g j, e => pr (G.gc j) e
  | .tup es, e => bnd (denEs es e) fun ds e1 => some (.ok (.tup ds), e1)
  | .lst es, e => bnd (denEs es e) fun ds e1 => some (.ok (.lst ds), e1)
  | .dic, e => some (.ok (.dic []), e)
  | .bin op a b, e => bnd (denE a e) fun x e1 => bnd (denE b e1) fun y e2 => pr (binD op x y) e2
  | .neg a, e => bnd (denE a e) fun x e1 => match x with
    | .int i => some (.ok (.int (-i)), e1)
    | _ => none
  | .cmp op a b, e => bnd (denE a e) fun x e1 => bnd (denE b e1) fun y e2 => pr (cmpD op x y) e2
  | .chn o1 o2 a b c, e => bnd (denE a e) fun x e1 => bnd (denE b e1) fun y e2 => bnd (tst (pr (cmpD o1 x y) e2)) fun k e3 =>
      if k = true then bnd (denE c e3) fun z e4 => pr (cmpD o2 y z) e4 else some (.ok (.bl false), e3)
  | .chn3 o1 o2 o3 a b c d, e => bnd (denE a e) fun x e1 => bnd (denE b e1) fun y e2 => bnd (tst (pr (cmpD o1 x y) e2)) fun k e3 =>
      if k = true then bnd (denE c e3) fun z e4 => bnd (tst (pr (cmpD o2 y z) e4)) fun k2 e5 =>
        if k2 = true then bnd (denE d e5) fun w e6 => pr (cmpD o3 z w) e6 else some (.ok (.bl false), e5)
      else some (.ok (.bl false), e3)
  | .and a b, e => bnd (tst (denE a e)) fun k e1 => if k = true then bnd (tst (denE b e1)) fun k2 e2 => some (.ok (.bl k2), e2) else some (.ok (.bl false), e1)
  | .or a b, e => bnd (tst (denE a e)) fun k e1 => if k = true then some (.ok (.bl true), e1) else bnd (tst (denE b e1)) fun k2 e2 => some (.ok (.bl k2), e2)
  | .not a, e => bnd (tst (denE a e)) fun k e1 => some (.ok (.bl (!k)), e1)
  | .ite c a b, e => bnd (tst (denE c e)) fun k e1 => if k = true then denE a e1 else denE b e1
  | .ix a b, e => bnd (denE a e) fun x e1 => bnd (denE b e1) fun y e2 => pr (ixD x y) e2
  | .sl a lo hi, e => bnd (denE a e) fun x e1 => bnd (denEo lo e1) fun l e2 => bnd (denEo hi e2) fun h e3 => pr (slD x l h) e3
  | .rev a, e => bnd (denE a e) fun x e1 => match x with
    | .lst ds => some (.ok (.lst ds.reverse), e1)
    | .tup ds => some (.ok (.tup ds.reverse), e1)
    | _ => none
  | .cix i b, e => bnd (pr (getV e i) e) fun _ e0 => bnd (denE b e0) fun y e1 => pr ((getV e1 i).bind fun x => ixD x y) e1
  | .cin op a i, e => bnd (denE a e) fun x e1 => pr ((getV e1 i).bind fun y => cmpD op x y) e1
  | .bi b es, e => bnd (denEs es e) fun ds e1 => pr (biD b ds) e1
  | .isi a t, e => bnd (denE a e) fun x e1 => pr ((isiD x t).map .bl) e1
  | .lset a, e => bnd (denE a e) fun x e1 => pr (lsetD x) e1
  | .call j es cs, e => bnd (denEs es e) fun ds e1 => match getCs e1 cs with
    | none => none
    | some ks => match G.fn j ds ks with
      | none => none
      | some (r, ks') => some (r, setCs cs ks' e1)
  | .comp elt tg it cs own, e => bnd (denIt it e) fun ds e1 => match compL own (asgT tg) (denCs cs) (denE elt) ds e1 with
    | some (xs, e2) => some (.ok (.lst xs), backE e1 e2 own)
    | none => none
  | .lzip a b, e => bnd (denE a e) fun x e1 => bnd (denE b e1) fun y e2 => pr (lzD x y) e2
  | .tri x, e => match denE x e with
    | none => none
    | some (.ok d, e1) => some (.ok (.tup [.str "told", d]), e1)
    | some (.error y, e1) => pr ((G.tr y).map .str) e1
  | .fn _ n, e => some (.ok (.fn n), e)
  | .callv i js es, e => bnd (pr ((getV e i).bind (fnAt js)) e) fun j e0 => bnd (denEs es e0) fun ds e1 => match G.fn j ds [] with
    | none => none
    | some (r, _) => some (r, e1)
  | .lix es x, e => bnd (denEs es e) fun ds e1 => bnd (denE x e1) fun k e2 => pr (atD ds k) e2
noncomputable def denEs : Es → Envd → Rs (List D)
  | .nil, e => some (.ok [], e)
  | .cons a r, e => bnd (denE a e) fun x e1 => bnd (denEs r e1) fun xs e2 => some (.ok (x :: xs), e2)
  | .cel i r, e => bnd (pr (getV e i) e) fun _ e0 => denEs r e0
noncomputable def denEo : Eo → Envd → Rs (Option Int)
  | .no, e => some (.ok none, e)
  | .so a, e => bnd (denE a e) fun x e1 => match x with
    | .int i => some (.ok (some i), e1)
    | _ => none
noncomputable def denCs : Es → Envd → Rs Bool
  | .nil, e => some (.ok true, e)
  | .cons a .nil, e => tst (denE a e)
  | _, _ => none
noncomputable def denIt : It → Envd → Rs (List D)
  | .sq a, e => bnd (denE a e) fun x e1 => pr (itemsD x) e1
  | .en a, e => bnd (denE a e) fun x e1 => pr (enumD x) e1
  | .zp a b, e => bnd (denE a e) fun x e1 => bnd (denE b e1) fun y e2 => pr (zipD x y) e2
  | .r1 a, e => bnd (denE a e) fun x e1 => pr (rngD (.int 0) x) e1
  | .r2 a b, e => bnd (denE a e) fun x e1 => bnd (denE b e1) fun y e2 => pr (rngD x y) e2
end

def forL (asg : D → Envd → Option Envd) (body : Envd → Rs Fl) : List D → Envd → Rs Fl
  | [], e => some (.ok .nx, e)
  | d :: ds, e => match asg d e with
    | none => none
    | some e1 => match body e1 with
      | none => none
      | some (.error x, e2) => some (.error x, e2)
      | some (.ok .nx, e2) => forL asg body ds e2
      | some (.ok .ct, e2) => forL asg body ds e2
      | some (.ok .bk, e2) => some (.ok .nx, e2)
      | some (.ok (.rt d), e2) => some (.ok (.rt d), e2)
def whN (c : Envd → Rs Bool) (body : Envd → Rs Fl) : Nat → Envd → Rs Fl
  | 0, _ => none
  | n + 1, e => match c e with
    | none => none
    | some (.error x, e1) => some (.error x, e1)
    | some (.ok false, e1) => some (.ok .nx, e1)
    | some (.ok true, e1) => match body e1 with
      | none => none
      | some (.error x, e2) => some (.error x, e2)
      | some (.ok .nx, e2) => whN c body n e2
      | some (.ok .ct, e2) => whN c body n e2
      | some (.ok .bk, e2) => some (.ok .nx, e2)
      | some (.ok (.rt d), e2) => some (.ok (.rt d), e2)
open Classical in
noncomputable def whL (c : Envd → Rs Bool) (body : Envd → Rs Fl) (e : Envd) : Rs Fl :=
  if h : ∃ n o, whN c body n e = some o then some (Classical.choose (Classical.choose_spec h)) else none
theorem whN_mono {c : Envd → Rs Bool} {body : Envd → Rs Fl} : ∀ {n : Nat} {e : Envd} {o : Except Exc Fl × Envd}, whN c body n e = some o → ∀ m, n ≤ m → whN c body m e = some o
  | 0, _, _, h, _, _ => by cases h
  | n + 1, e, o, h, 0, hm => by omega
  | n + 1, e, o, h, m + 1, hm => by
    unfold whN at h ⊢
    cases hc : c e with
    | none => rw [hc] at h; cases h
    | some r =>
      obtain ⟨r, e1⟩ := r
      rw [hc] at h
      cases r with
      | error x => exact h
      | ok k =>
        cases k with
        | false => exact h
        | true =>
          simp only at h ⊢
          cases hb : body e1 with
          | none => rw [hb] at h; cases h
          | some r =>
            obtain ⟨r, e2⟩ := r
            rw [hb] at h
            cases r with
            | error x => exact h
            | ok f =>
              cases f with
              | nx => exact whN_mono h m (by omega)
              | ct => exact whN_mono h m (by omega)
              | bk => exact h
              | rt d => exact h
theorem whL_eq {c : Envd → Rs Bool} {body : Envd → Rs Fl} {n : Nat} {e : Envd} {o : Except Exc Fl × Envd} (h : whN c body n e = some o) : whL c body e = some o := by
  have hx : ∃ n o, whN c body n e = some o := ⟨n, o, h⟩
  unfold whL
  rw [dif_pos hx]
  have h2 := Classical.choose_spec (Classical.choose_spec hx)
  have h3 := whN_mono h (max n (Classical.choose hx)) (Nat.le_max_left _ _)
  have h4 := whN_mono h2 (max n (Classical.choose hx)) (Nat.le_max_right _ _)
  rw [h3] at h4
  exact h4.symm
theorem whL_of {c : Envd → Rs Bool} {body : Envd → Rs Fl} {e : Envd} {o : Except Exc Fl × Envd} (h : whL c body e = some o) : ∃ n, whN c body n e = some o := by
  unfold whL at h
  split at h
  · rename_i hx
    have h2 := Classical.choose_spec (Classical.choose_spec hx)
    rw [Option.some.inj h] at h2
    exact ⟨_, h2⟩
  · cases h
/-- one turn -/
theorem whL_turn {c : Envd → Rs Bool} {body : Envd → Rs Fl} (e : Envd) : whL c body e = bnd (c e) fun k e1 => if k = true then bnd (body e1) fun f e2 => match f with
    | .nx => whL c body e2
    | .ct => whL c body e2
    | .bk => some (.ok .nx, e2)
    | .rt d => some (.ok (.rt d), e2)
  else some (.ok .nx, e1) := by
  cases hc : c e with
  | none =>
    cases hw : whL c body e with
    | none => rfl
    | some o =>
      obtain ⟨n, h⟩ := whL_of hw
      cases n with
      | zero => cases h
      | succ n => simp [whN, hc] at h
  | some r =>
    obtain ⟨r, e1⟩ := r
    cases r with
    | error x => exact whL_eq (n := 1) (by simp [whN, hc])
    | ok k =>
      cases k with
      | false => exact whL_eq (n := 1) (by simp [whN, hc])
      | true =>
        simp only [bnd_ok, if_true]
        cases hb : body e1 with
        | none =>
          cases hw : whL c body e with
          | none => rfl
          | some o =>
            obtain ⟨n, h⟩ := whL_of hw
            cases n with
            | zero => cases h
            | succ n => simp [whN, hc, hb] at h
        | some r =>
          obtain ⟨r, e2⟩ := r
          cases r with
          | error x => exact whL_eq (n := 1) (by simp [whN, hc, hb])
          | ok f =>
            have go : ∀ f, (f = .nx ∨ f = .ct) → body e1 = some (.ok f, e2) → whL c body e = whL c body e2 := fun f hf hb => by
              cases hw : whL c body e2 with
              | none =>
                cases hw2 : whL c body e with
                | none => rfl
                | some o =>
                  obtain ⟨n, h⟩ := whL_of hw2
                  cases n with
                  | zero => cases h
                  | succ n =>
                    have h' : whN c body n e2 = some o := by
                      unfold whN at h
                      rw [hc] at h
                      simp only [hb] at h
                      rcases hf with rfl | rfl <;> exact h
                    rw [whL_eq h'] at hw
                    cases hw
              | some o =>
                obtain ⟨n, h⟩ := whL_of hw
                refine whL_eq (n := n + 1) ?_
                unfold whN
                rw [hc]
                simp only [hb]
                rcases hf with rfl | rfl <;> exact h
            cases f with
            | nx => exact go _ (.inl rfl) hb
            | ct => exact go _ (.inr rfl) hb
            | bk => exact whL_eq (n := 1) (by simp [whN, hc, hb])
            | rt d => exact whL_eq (n := 1) (by simp [whN, hc, hb])

def isOb : D → Bool
  | .lst _ => true
  | .dic _ => true
  | _ => false
/-- several names, one behind the other -/
def parS : List (Nat × Bool × E) → List D → Envd → Envd
  | (i, _) :: r, d :: ds, e => parS r ds (e.set i (some d))
  | _, _, e => e
def lstsE (e : Envd) (Z : List Nat) : Bool := Z.all fun i => match getV e i with
  | some (.lst _) => true
  | none => true
  | _ => false
/-- x[k] = v -/
def stD : D → D → D → Option D
  | .lst ds, .int k, v => (ixN ds.length k).map fun j => .lst (ds.set j v)
  | .dic kvs, k, v => (keyOf k).bind fun _ => if kvs.length < LIM then some (.dic (dPut kvs k v)) else none
  | _, _, _ => none
def appD : D → D → Option D
  | .lst ds, d => if ds.length < LIM then some (.lst (ds ++ [d])) else none
  | _, _ => none
def insD : D → D → D → Option D
  | .lst ds, .int i, d => if ds.length < LIM ∧ 0 ≤ i ∧ i ≤ ds.length then some (.lst (ds.take i.toNat ++ d :: ds.drop i.toNat)) else none
  | _, _, _ => none
def extD : D → D → Option D
  | .lst ds, .lst es => if ds.length + es.length ≤ LIM then some (.lst (ds ++ es)) else none
  | _, _ => none
/-- the first equal one is taken out -/
def remD : D → D → Option D
  | .lst ds, d => if okIn ds d = true then (ds.findIdx? fun z => eqD z d).map fun j => .lst (ds.eraseIdx j) else none
  | _, _ => none
/-- x op= y, not of lists -/
def augD : Operator → D → D → Option D
  | .Add, .int i, .int j => some (.int (i + j))
  | .Sub, .int i, .int j => some (.int (i - j))
  | _, _, _ => none

def lstAt (e : Envd) (i : Nat) : Option Unit := match getV e i with
  | some (.lst _) => some ()
  | _ => none
noncomputable def denPar : List (Nat × Bool × E) → Envd → Rs (List D)
  | [], e => some (.ok [], e)
  | (_, false, x) :: r, e => bnd (denE G x e) fun d e1 => bnd (denPar r e1) fun ds e2 => some (.ok (d :: ds), e2)
  | (_, true, x) :: r, e => match denE G x e with
    | none => none
    | some (.error y, _) => some (.error y, e)
    | some (.ok d, _) => if isOb d = true then bnd (denPar r e) fun ds e2 => some (.ok (d :: ds), e2) else none
/-- lists, all short -/
def shortL (ds : List D) : Bool := ds.all fun d => match d with
  | .lst xs => decide (xs.length + 2000 ≤ LIM)
  | _ => false
def shortAt (ds : List D) (m : Nat) : Bool := match ds[m]? with
  | some (.lst xs) => decide (xs.length + 2000 ≤ LIM)
  | _ => false
mutual
noncomputable def denS : Sm → Envd → Rs Fl
  | .set i x, e => bnd (denE G x e) fun d e1 => some (.ok .nx, e1.set i (some d))
  | .setO i x, e => match denE G x e with
    | none => none
    | some (.error y, _) => some (.error y, e)
    | some (.ok d, _) => if isOb d = true then some (.ok .nx, e.set i (some d)) else none
  | .setC i x, e => bnd (denE G x e) fun d e1 => some (.ok .nx, e1.set i (some d))
  | .par ps, e => bnd (denPar G ps e) fun ds e1 => some (.ok .nx, parS ps ds e1)
  | .unp tg x, e => bnd (denE G x e) fun d e1 => bnd (pr (asgT tg d e1) e1) fun e2 _ => some (.ok .nx, e2)
  | .aug i op x, e => bnd (pr (getV e i) e) fun a _ => bnd (denE G x e) fun d e1 => bnd (pr (augD op a d) e1) fun r e2 => some (.ok .nx, e2.set i (some r))
  | .ext i x, e => bnd (pr (lstAt e i) e) fun _ _ => bnd (denE G x e) fun d e1 => bnd (pr ((getV e1 i).bind fun a => extD a d) e1) fun r e2 => some (.ok .nx, e2.set i (some r))
  | .appX x _, e => match denE G x e with
    | none => none
    | some (.error y, _) => some (.error y, e)
    | some (.ok (.lst ds), _) => if ds.length < LIM then some (.ok .nx, e) else none
    | _ => none
  | .app i x, e => bnd (pr (lstAt e i) e) fun _ _ => bnd (denE G x e) fun d e1 => bnd (pr ((getV e1 i).bind fun a => appD a d) e1) fun r e2 => some (.ok .nx, e2.set i (some r))
  | .ins i a b, e => bnd (pr (lstAt e i) e) fun _ _ => bnd (denE G a e) fun x e1 => bnd (denE G b e1) fun y e2 => bnd (pr ((getV e2 i).bind fun l => insD l x y) e2) fun r e3 => some (.ok .nx, e3.set i (some r))
  | .rem i x, e => bnd (pr (lstAt e i) e) fun _ _ => bnd (denE G x e) fun d e1 => bnd (pr ((getV e1 i).bind fun a => remD a d) e1) fun r e2 => some (.ok .nx, e2.set i (some r))
  | .stx i k x, e => bnd (denE G x e) fun d e1 => bnd (pr (getV e1 i) e1) fun _ _ => bnd (denE G k e1) fun y e2 => bnd (pr ((getV e2 i).bind fun l => stD l y d) e2) fun r e3 => some (.ok .nx, e3.set i (some r))
  | .ex x, e => bnd (denE G x e) fun _ e1 => some (.ok .nx, e1)
  | .ifs c a b, e => bnd (tst (denE G c e)) fun k e1 => if k = true then denSs a e1 else denSs b e1
  | .ifz Z c a b, e => if lstsE e Z = true then match tst (denE G c e) with
    | none => none
    | some (.error y, _) => some (.error y, e)
    | some (.ok k, _) => if k = true then denSs a e else denSs b e
    else none
  | .dpx i j es Z c p, e => match denEs G es e with
    | none => none
    | some (.error y, _) => some (.error y, e)
    | some (.ok ds, _) => if shortL ds = true ∧ i < e.length ∧ j < e.length ∧ lstsE (e.set i (some (.lst ds))) Z = true then match tst (denE G c (e.set i (some (.lst ds)))) with
      | none => none
      | some (.error y, _) => some (.error y, e.set i (some (.lst ds)))
      | some (.ok k, _) => if k = true then (match denSs p (e.set i (some (.lst ds))) with
        | some (.ok (.rt d), e') => some (.ok (.rt d), e')
        | _ => none) else some (.ok .nx, (e.set i none).set j none)
      else none
  | .dpn i es ms Z c p, e => match denEs G es e with
    | none => none
    | some (.error y, _) => some (.error y, e)
    | some (.ok ds, _) => if ms.all (shortAt ds) = true ∧ ms.length ≤ 1000 ∧ i < e.length ∧ lstsE (e.set i (some (.lst ds))) Z = true then match tst (denE G c (e.set i (some (.lst ds)))) with
      | none => none
      | some (.error y, _) => some (.error y, e.set i (some (.lst ds)))
      | some (.ok k, _) => if k = true then (match denSs p (e.set i (some (.lst ds))) with
        | some (.ok (.rt d), e') => some (.ok (.rt d), e')
        | _ => none) else some (.ok .nx, e.set i none)
      else none
  | .bad, _ => none
  | .fr tg it b, e => bnd (denIt G it e) fun ds e1 => forL (asgT tg) (denSs b) ds e1
  | .wh c b, e => whL (fun e1 => tst (denE G c e1)) (denSs b) e
  | .ret Z x, e => if lstsE e Z = true then bnd (denE G x e) fun d e1 => some (.ok (.rt d), e1) else none
  | .retN, e => some (.ok (.rt .non), e)
  | .retO i, e => bnd (pr (getV e i) e) fun d e1 => match d with
    | .lst ds => some (.ok (.rt (.lst ds)), e1)
    | _ => none
  | .rse j, e => some (.error ⟨j, none⟩, e)
  | .rsf j x, e => bnd (denE G x e) fun d e1 => some (.error ⟨j, some d⟩, e1)
  | .brk, e => some (.ok .bk, e)
  | .cnt, e => some (.ok .ct, e)
  | .pass, e => some (.ok .nx, e)
noncomputable def denSs : List Sm → Envd → Rs Fl
  | [], e => some (.ok .nx, e)
  | s :: ss, e => bnd (denS s e) fun f e1 => match f with
    | .nx => denSs ss e1
    | .rt d => some (.ok (.rt d), e1)
    | .bk => some (.ok .bk, e1)
    | .ct => some (.ok .ct, e1)
end
end Rf

set_option maxRecDepth 100000
set_option maxHeartbeats 1000000
/-! Rf6: how a def's slots stand in the abstract heap; the readings of expressions. -/
namespace Rf
open PySem PySem.Spec PyProof.Rows L2
variable [TN]

theorem Vw.less {K : PySem.W.Frag} {W W' S : AS} {H : Hp} {d : D} {v : V} (m : ∀ a, W' a → W a) (h : Vw K W S H d v) : Vw K W' S H d v := by
  rcases h with z | ⟨a, e1, e2, e3⟩
  · exact .inl z
  · exact .inr ⟨a, e1, fun z => e2 (m a z), e3⟩
/-- how a slot holds what it holds -/
inductive SK where
  | val | bor | own | cel
  deriving DecidableEq
/-- a parameter -/
inductive PK where
  | val | bor | cel
  deriving DecidableEq
/-- what is known of an expression's value: new (fo: perhaps a dict), apart from one's own, just to be looked at -/
inductive KD where
  | fr | fo | vl | br
  deriving DecidableEq
structure FnI where
  name : Str
  pk : List PK
  fresh : Bool
/-- what of the text is fixed: the slots' names and kinds, the module's defs, built-ins, constants -/
structure Cfg where
  N : List Str
  ks : List SK
  fns : List FnI
  bl : List Str
  gcs : List Str
  ret : Bool
  pcl : List Nat
  exs : List Str
  tri : Bool := false

/-- a def's run: its entry (S0 what is others', H0 the heap, Wp the addresses handed in to be changed, bo those just to be looked at), its wish about exceptions -/
structure Ac where
  K : PySem.W.Frag
  ks : List SK
  S0 : AS
  H0 : Hp
  Wp : AS
  pcs : List (Nat × Addr)
  bo : AS
  XW : XK
  ca : Nat → Addr
  cf : Nat → Str
/-- the addresses that an expression may change -/
def CelAt (A : Ac) (σ : L2.St) : AS := fun a => ∃ i : Nat, A.ks[i]? = some SK.cel ∧ σ[i]? = some (some (V.ref a))
def Ownish (A : Ac) (i : Nat) : Prop := A.ks[i]? = some SK.own ∨ A.ks[i]? = some SK.cel
/-- the addresses that slots of this def own -/
def OwnAt (A : Ac) (σ : L2.St) : AS := fun a => ∃ i : Nat, Ownish A i ∧ σ[i]? = some (some (V.ref a))
theorem CelAt.own {A : Ac} {σ : L2.St} {a : Addr} (h : CelAt A σ a) : OwnAt A σ a := let ⟨i, h1, h2⟩ := h; ⟨i, .inr h1, h2⟩
def SlR (A : Ac) (S : AS) (H : Hp) (k : Option SK) (d : D) (v : V) : Prop :=
  match k with
  | some .val => Rep A.K S H d v
  | some .bor => Vw A.K (fun a => ¬ A.bo a) S H d v
  | some .own => ∃ a, v = .ref a ∧ S a ∧ A.H0 a = none ∧ Ob A.K S H d a
  | some .cel => ∃ a, v = .ref a ∧ S a ∧ (A.Wp a ∨ A.H0 a = none) ∧ Ob A.K S H d a
  | none => False
structure SR (A : Ac) (S : AS) (e : Envd) (σ : L2.St) (H : Hp) : Prop where
  len : e.length = σ.length
  s0 : ∀ a, A.S0 a → S a
  s0h : ∀ a, A.S0 a → A.H0 a ≠ none
  dom : ∀ a, S a → H a ≠ none
  new : ∀ a, S a → A.S0 a ∨ A.H0 a = none
  wp : ∀ a, A.Wp a → A.H0 a ≠ none
  fr : Kp A.Wp A.H0 H
  non : ∀ i : Nat, e[i]? = some none → Ownish A i → σ[i]? = some none
  slot : ∀ (i : Nat) (d : D), e[i]? = some (some d) → ∃ v, σ[i]? = some (some v) ∧ SlR A S H A.ks[i]? d v
  dist : ∀ (i j : Nat) (a : Addr), i ≠ j → Ownish A i → Ownish A j → σ[i]? = some (some (V.ref a)) → σ[j]? = some (some (V.ref a)) → False
  bo : ∀ a, A.bo a → H a ≠ none ∧ ¬ OwnAt A σ a
  pc : ∀ p ∈ A.pcs, A.ks[p.1]? = some SK.cel ∧ σ[p.1]? = some (some (V.ref p.2))
section
variable {A : Ac} {S : AS} {e e' : Envd} {σ : L2.St} {H H' : Hp}
theorem SR.at (R : SR A S e σ H) {i : Nat} {v : V} (ho : Ownish A i) (h : σ[i]? = some (some v)) : ∃ d, e[i]? = some (some d) ∧ SlR A S H A.ks[i]? d v := by
  cases q : e[i]? with
  | none =>
    have h1 := List.getElem?_eq_none_iff.mp q
    have h2 := (List.getElem?_eq_some_iff.mp h).1
    rw [R.len] at h1
    omega
  | some o =>
    cases o with
    | none => rw [R.non i q ho] at h; cases h
    | some d =>
      obtain ⟨v', h1, h2⟩ := R.slot i d q
      rw [h] at h1
      cases h1
      exact ⟨d, rfl, h2⟩
theorem SR.cel (R : SR A S e σ H) {a : Addr} (h : CelAt A σ a) : S a ∧ (A.Wp a ∨ A.H0 a = none) := by
  obtain ⟨i, hk, hs⟩ := h
  obtain ⟨d, h1, h2⟩ := R.at (.inr hk) hs
  rw [hk] at h2
  obtain ⟨b, e1, e2, e3, _⟩ := h2
  cases e1
  exact ⟨e2, e3⟩
theorem SR.celS (R : SR A S e σ H) : ∀ a, CelAt A σ a → S a := fun _ h => (R.cel h).1
theorem SR.celD (R : SR A S e σ H) : ∀ a, CelAt A σ a → H a ≠ none := fun a h => R.dom a (R.celS a h)
theorem SR.own (R : SR A S e σ H) {i : Nat} {a : Addr} (hk : Ownish A i) (hs : σ[i]? = some (some (V.ref a))) : S a ∧ H a ≠ none := by
  obtain ⟨d, h1, h2⟩ := R.at hk hs
  rcases hk with hk | hk
  · rw [hk] at h2
    obtain ⟨b, e1, e2, _, e3⟩ := h2
    cases e1
    exact ⟨e2, e3.dom⟩
  · rw [hk] at h2
    obtain ⟨b, e1, e2, _, e3⟩ := h2
    cases e1
    exact ⟨e2, e3.dom⟩
theorem SR.getV (R : SR A S e σ H) {i : Nat} {d : D} (h : Rf.getV e i = some d) : ∃ v, σ[i]? = some (some v) ∧ SlR A S H A.ks[i]? d v := by
  unfold Rf.getV at h
  cases q : e[i]? with
  | none => rw [q] at h; cases h
  | some o => rw [q] at h; simp only at h; subst h; exact R.slot i d q
theorem SR.ownS (R : SR A S e σ H) : ∀ a, OwnAt A σ a → S a := fun a ⟨i, h1, h2⟩ => (R.own h1 h2).1
theorem SR.ownD (R : SR A S e σ H) : ∀ a, OwnAt A σ a → H a ≠ none := fun a h => R.dom a (R.ownS a h)
/-- kept: what changes is not what the slot owns, nor a thing to be looked at -/
theorem SlR.kp {W : AS} {k : Option SK} {d : D} {v : V} (q : Kp W H H') (m : ∀ b, W b → S b) (nb : ∀ b, A.bo b → ¬ W b) (no : ∀ a, v = .ref a → (k = some .own ∨ k = some .cel) → ¬ W a) (h : SlR A S H k d v) : SlR A S H' k d v := by
  cases k with
  | none => exact h.elim
  | some k =>
    cases k with
    | val => exact Rep.kp q m h
    | bor =>
      rcases h with h | ⟨a, e1, e2, e3⟩
      · exact .inl (h.kp q m)
      · exact .inr ⟨a, e1, e2, e3.kp q m (nb a (Classical.not_not.mp e2))⟩
    | own => obtain ⟨a, e1, e2, e3, e4⟩ := h; exact ⟨a, e1, e2, e3, e4.kp q m (no a e1 (.inl rfl))⟩
    | cel => obtain ⟨a, e1, e2, e3, e4⟩ := h; exact ⟨a, e1, e2, e3, e4.kp q m (no a e1 (.inr rfl))⟩
theorem SlR.ext (x : Ext H H') {k : Option SK} {d : D} {v : V} (h : SlR A S H k d v) : SlR A S H' k d v :=
  h.kp (W := fun _ => False) (Kp.ext x) (fun _ z => z.elim) (fun _ _ z => z) fun _ _ _ z => z
theorem SR.ext (R : SR A S e σ H) (x : Ext H H') : SR A S e σ H' :=
  ⟨R.len, R.s0, R.s0h, fun a h => x.dom (R.dom a h), R.new, R.wp, R.fr.trans (Kp.ext x), R.non, fun i d h => let ⟨v, h1, h2⟩ := R.slot i d h; ⟨v, h1, h2.ext x⟩, R.dist, fun a h => ⟨x.dom (R.bo a h).1, (R.bo a h).2⟩, R.pc⟩
end

/-- what is known of a value d that came from the heap H, in H' -/
def VR (A : Ac) (S : AS) (σ : L2.St) (k : KD) (H H' : Hp) (d : D) (v : V) : Prop :=
  match k with
  | .fr => Fr A.K S H H' d v ∧ isDic d = false
  | .fo => Fr A.K S H H' d v
  | .vl => Rep A.K S H' d v
  | .br => Vw A.K (CelAt A σ) S H' d v
section
variable {A : Ac} {S : AS} {e e' : Envd} {σ : L2.St} {H H1 H' : Hp} {k : KD} {d : D} {v : V}
theorem Fr.kp {K : PySem.W.Frag} {W : AS} (q : Kp W H1 H') (m : ∀ a, W a → S a) (n : ∀ a, W a → H a ≠ none) (h : Fr K S H H1 d v) : Fr K S H H' d v := by
  cases d with
  | lst ds => obtain ⟨p, e1, e2, e3⟩ := h; exact ⟨p, e1, e2, e3.kp q (fun b z => .inl (m b z)) fun z => n p z e2⟩
  | dic ds => obtain ⟨p, e1, e2, e3⟩ := h; exact ⟨p, e1, e2, e3.kp q (fun b z => .inl (m b z)) fun z => n p z e2⟩
  | _ => exact Rep.kp q m h
theorem Fr.back {K : PySem.W.Frag} (m : ∀ a, H a ≠ none → H1 a ≠ none) (h : Fr K S H1 H' d v) : Fr K S H H' d v := by
  have b : ∀ p, H1 p = none → H p = none := fun p z => by
    cases q : H p with
    | none => rfl
    | some o => exact absurd z (m p (by rw [q]; exact fun z => nomatch z))
  cases d with
  | lst ds => obtain ⟨p, e1, e2, e3⟩ := h; exact ⟨p, e1, b p e2, e3⟩
  | dic ds => obtain ⟨p, e1, e2, e3⟩ := h; exact ⟨p, e1, b p e2, e3⟩
  | _ => exact h
theorem VR.kp (R : SR A S e σ H) (q : Kp (CelAt A σ) H1 H') (h : VR A S σ k H H1 d v) : VR A S σ k H H' d v := by
  cases k with
  | fr => exact ⟨h.1.kp q R.celS R.celD, h.2⟩
  | fo => exact Fr.kp q R.celS R.celD h
  | vl => exact Rep.kp q R.celS h
  | br => exact Vw.kp q R.celS h
theorem VR.back (m : ∀ a, H a ≠ none → H1 a ≠ none) (h : VR A S σ k H1 H' d v) : VR A S σ k H H' d v := by
  cases k with
  | fr => exact ⟨h.1.back m, h.2⟩
  | fo => exact Fr.back m h
  | vl => exact h
  | br => exact h
theorem VR.vw (hc : ∀ a, CelAt A σ a → H a ≠ none) (h : VR A S σ k H H' d v) : Vw A.K (CelAt A σ) S H' d v := by
  cases k with
  | fr => exact h.1.vw hc
  | fo => exact Fr.vw h hc
  | vl => exact .inl h
  | br => exact h
theorem VR.rep (hs : ∀ a, S a → H a ≠ none) (hk : k = .fr ∨ k = .vl) (h : VR A S σ k H H' d v) : Rep A.K S H' d v := by
  rcases hk with rfl | rfl
  · exact h.1.rep h.2 hs
  · exact h
end

/-- an exception as data: its class, its own dict -/
def ExR (A : Ac) (H : Hp) (x : Exc) (cls : Value) (dd : Option Addr) : Prop :=
  cls = .ref (A.ca x.cls) ∧ match x.fld with
  | none => dd = none
  | some d => ∃ a v, dd = some a ∧ H a = some (.xd [(A.cf x.cls, v)]) ∧ Rep A.K (fun _ => False) H d v
/-- what is wanted behind: of a value, or of an exception -/
def Post {α β : Type} (A : Ac) (S : AS) (σ : L2.St) (H : Hp) (F : Hp → α → β → Prop) (Q : β → Hp → Prop) (r : Except Exc α) (e' : Envd) : Prop :=
  match r with
  | .ok d => ∀ v H', Kp (CelAt A σ) H H' → SR A S e' σ H' → F H' d v → Q v H'
  | .error x => ∀ cls dd H', Kp (CelAt A σ) H H' → SR A S e' σ H' → ExR A H' x cls dd → A.XW cls dd H'
abbrev PostV (A : Ac) (S : AS) (σ : L2.St) (k : KD) (H : Hp) (Q : VK) (r : Except Exc D) (e' : Envd) : Prop := Post A S σ H (fun H' d v => VR A S σ k H H' d v) Q r e'
abbrev PostB (A : Ac) (S : AS) (σ : L2.St) (H : Hp) (Q : Bool → Hp → Prop) (r : Except Exc Bool) (e' : Envd) : Prop := Post A S σ H (fun _ d v => v = d) Q r e'
theorem PostV.shift {A : Ac} {S : AS} {σ : L2.St} {k : KD} {H H1 : Hp} {Q : VK} {r : Except Exc D} {e' : Envd} (q : Kp (CelAt A σ) H H1) (h : PostV A S σ k H Q r e') : PostV A S σ k H1 Q r e' := by
  cases r with
  | ok d => exact fun v H' q' R' x => h v H' (q.trans q') R' (x.back q.dom)
  | error x => exact fun cls dd H' q' R' y => h cls dd H' (q.trans q') R' y
theorem PostB.shift {A : Ac} {S : AS} {σ : L2.St} {H H1 : Hp} {Q : Bool → Hp → Prop} {r : Except Exc Bool} {e' : Envd} (q : Kp (CelAt A σ) H H1) (h : PostB A S σ H Q r e') : PostB A S σ H1 Q r e' := by
  cases r with
  | ok d => exact fun v H' q' R' x => h v H' (q.trans q') R' x
  | error x => exact fun cls dd H' q' R' y => h cls dd H' (q.trans q') R' y

variable (C : Cfg)
/-- what is known of an expression's value by its look -/
def kdE : E → KD
  | .v i => match C.ks[i]? with
    | some .val => .vl
    | _ => .br
  | .g _ => .vl
  | .dic => .fo
  | .bi b _ => if b = .dict then .fo else .fr
  | .ite _ a b => if kdE a = .fr ∧ kdE b = .fr then .fr else if (kdE a = .fr ∨ kdE a = .vl) ∧ (kdE b = .fr ∨ kdE b = .vl) then .vl else .br
  | .ix _ _ => .vl
  | .cix _ _ => .vl
  | .callv _ _ _ => .vl
  | .lix _ _ => .br
  | .call j _ _ => match C.fns[j]? with
    | some I => if I.fresh = true then .fr else .vl
    | none => .br
  | _ => .fr
variable {C}
variable (G : Gam) (A : Ac)
def tE (x : E) : TE := fun σ H Q => ∃ S e r e', SR A S e σ H ∧ denE G x e = some (r, e') ∧ PostV A S σ (kdE C x) H Q r e'
def tT (x : E) : TT := fun σ H Q => ∃ S e r e', SR A S e σ H ∧ tst (denE G x e) = some (r, e') ∧ PostB A S σ H Q r e'
variable {G A}
/-- first one thing, then the rest -/
theorem tE_then {x : E} {α : Type} {f : D → Envd → Rs α} {S : AS} {σ : L2.St} {e : Envd} {H : Hp} {r : Except Exc α} {e' : Envd} {Q : VK} (R : SR A S e σ H) (h : bnd (denE G x e) f = some (r, e'))
    (pe : ∀ y, r = .error y → ∀ cls dd H', Kp (CelAt A σ) H H' → SR A S e' σ H' → ExR A H' y cls dd → A.XW cls dd H')
    (next : ∀ d e1 v H1, f d e1 = some (r, e') → Kp (CelAt A σ) H H1 → SR A S e1 σ H1 → VR A S σ (kdE C x) H H1 d v → Q v H1) : tE (C := C) G A x σ H Q := by
  cases q : denE G x e with
  | none => rw [q] at h; cases h
  | some o =>
    obtain ⟨r1, e1⟩ := o
    rw [q] at h
    cases r1 with
    | error y =>
      cases h
      exact ⟨S, e, .error y, _, R, q, pe y rfl⟩
    | ok d => exact ⟨S, e, .ok d, e1, R, q, fun v H1 k R1 x => next d e1 v H1 h k R1 x⟩
theorem tT_then {x : E} {α : Type} {f : Bool → Envd → Rs α} {S : AS} {σ : L2.St} {e : Envd} {H : Hp} {r : Except Exc α} {e' : Envd} {Q : Bool → Hp → Prop} (R : SR A S e σ H) (h : bnd (tst (denE G x e)) f = some (r, e'))
    (pe : ∀ y, r = .error y → ∀ cls dd H', Kp (CelAt A σ) H H' → SR A S e' σ H' → ExR A H' y cls dd → A.XW cls dd H')
    (next : ∀ d e1 H1, f d e1 = some (r, e') → Kp (CelAt A σ) H H1 → SR A S e1 σ H1 → Q d H1) : tT G A x σ H Q := by
  cases q : tst (denE G x e) with
  | none => rw [q] at h; cases h
  | some o =>
    obtain ⟨r1, e1⟩ := o
    rw [q] at h
    cases r1 with
    | error y =>
      cases h
      exact ⟨S, e, .error y, _, R, q, pe y rfl⟩
    | ok d => exact ⟨S, e, .ok d, e1, R, q, fun v H1 k R1 x => by cases x; exact next d e1 H1 h k R1⟩
theorem Post.err {α β : Type} {S : AS} {σ : L2.St} {H : Hp} {F : Hp → α → β → Prop} {Q : β → Hp → Prop} {r : Except Exc α} {e' : Envd} (h : Post A S σ H F Q r e') : ∀ y, r = .error y → ∀ cls dd H', Kp (CelAt A σ) H H' → SR A S e' σ H' → ExR A H' y cls dd → A.XW cls dd H' := by
  intro y hr
  subst hr
  exact h
/-- an end: a new value out of an operation -/
theorem PostV.done {S : AS} {σ : L2.St} {k : KD} {H H' : Hp} {Q : VK} {d : D} {e' : Envd} {v : V} (R : SR A S e' σ H) (h : PostV A S σ k H Q (.ok d) e') (x : Ext H H') (z : VR A S σ k H H' d v) : Q v H' :=
  h v H' (Kp.ext x) (R.ext x) z
theorem _root_.L2.PE.weak {X : Cx} {e : Expr} {t t' : TE} (h : PE X e t) (m : ∀ σ H Q, t' σ H Q → t σ H Q) : PE X e t' := ⟨fun pins s σ H Q I q => h.run pins s σ H Q I (m σ H Q q)⟩
theorem _root_.L2.PT.weak {X : Cx} {e : Expr} {t t' : TT} (h : PT X e t) (m : ∀ σ H Q, t' σ H Q → t σ H Q) : PT X e t' := ⟨fun pins s σ H Q I q => h.run pins s σ H Q I (m σ H Q q)⟩
theorem _root_.L2.PW.weak {X : Cx} {e : Expr} {t t' : TT} (h : PW X e t) (m : ∀ σ H Q, t' σ H Q → t σ H Q) : PW X e t' := ⟨fun wh pins s σ H Q I q => h.run wh pins s σ H Q I (m σ H Q q)⟩
theorem _root_.L2.PS.weak {X : Cx} {e : Stmt} {t t' : TS} (h : PS X e t) (m : ∀ D σ H, t' D σ H → t D σ H) : PS X e t' := ⟨fun pins s σ H Q I q => h.run pins s σ H Q I (m Q σ H q)⟩
theorem _root_.L2.PSs.weak {X : Cx} {e : List Stmt} {t t' : TS} (h : PSs X e t) (m : ∀ D σ H, t' D σ H → t D σ H) : PSs X e t' := ⟨fun pins s σ H Q I q => h.run pins s σ H Q I (m Q σ H q)⟩
theorem bnd_pr {α : Type} {o : Option α} {e1 : Envd} {r : Except Exc α} {e' : Envd} (h : pr o e1 = some (r, e')) : ∃ a, o = some a ∧ r = .ok a ∧ e' = e1 := by
  cases o with
  | none => cases h
  | some a => cases h; exact ⟨a, rfl, rfl, rfl⟩
end Rf

set_option maxRecDepth 100000
set_option maxHeartbeats 1000000
/-! Rf7: expressions, one form after another: the model's run gives what denE says. -/
namespace Rf
open PySem PySem.Spec PyProof.Rows L2
variable [TN]
section
variable {X : Cx} {C : Cfg} {G : Gam} {A : Ac} {a b c : Expr} {x y z : E} {pos : Pos}

/-- values that a text writes -/
def litV : D → Option V
  | .non => some .non
  | .bl b => some (.bl b)
  | .int i => some (.int i)
  | .str x => some (.str x)
  | _ => none
def litC : Const → D → Bool
  | .none, .non => true
  | .bool b, .bl c => decide (b = c)
  | .int i, .int j => decide (i = j)
  | .str x, .str y => decide (x = y)
  | _, _ => false
theorem sE_c {k : Const} {n : Nat} {d : D} (h : litC k d = true) : PE X (.Constant k n pos) (tE (C := C) G A (.c d)) := by
  have go : ∀ v, Rep A.K (fun _ => True) (fun _ => none) d v → litV d = some v → PE X (.Constant k n pos) (tC v) → PE X (.Constant k n pos) (tE (C := C) G A (.c d)) := fun v rp hl hp => by
    refine hp.weak fun σ H Q ⟨S, e, r, e', R, hd, P⟩ => ?_
    have hd' : some (Except.ok d, e) = some (r, e') := by simpa [denE] using hd
    cases hd'
    have rp2 : Rep A.K S H d v := (rp.avoid (S' := S) fun _ _ => .inl trivial).kp (W := fun _ => False) ⟨fun _ _ h => (by cases h), fun _ _ h => (by cases h), fun _ h => absurd rfl h, fun _ _ _ h => (by cases h), fun _ ⟨_, h, _⟩ => (by cases h)⟩ fun _ z => z.elim
    refine P.done R (Ext.refl H) ⟨?_, ?_⟩
    · cases d <;> first | exact rp2 | cases hl
    · cases d <;> first | rfl | cases hl
  cases k <;> cases d <;> simp only [litC] at h <;> try contradiction
  · exact go .non .non rfl pe_non
  · rename_i b c
    obtain rfl := of_decide_eq_true h
    exact go (.bl b) (.bl b) rfl pe_bl
  · rename_i b c
    obtain rfl := of_decide_eq_true h
    exact go (.int b) (.int b) rfl pe_int
  · rename_i b c
    obtain rfl := of_decide_eq_true h
    exact go (.str b) (.str b) rfl pe_str

theorem SlR.vr {S : AS} {e : Envd} {σ : L2.St} {H : Hp} {i : Nat} {d : D} {v : V} (R : SR A S e σ H) (hk : A.ks = C.ks) (hc : C.ks[i]? ≠ some .cel) (hv : σ[i]? = some (some v)) (h : SlR A S H A.ks[i]? d v) : VR A S σ (kdE C (.v i)) H H d v := by
  rw [hk] at h
  unfold kdE
  cases q : C.ks[i]? with
  | none => rw [q] at h; exact h.elim
  | some k =>
    rw [q] at h
    cases k with
    | val => exact h
    | bor => exact Vw.less (fun a z => fun b => (R.bo a b).2 z.own) h
    | own =>
      obtain ⟨p, rfl, h1, h2, h3⟩ := h
      refine .inr ⟨p, rfl, fun z => ?_, h3⟩
      obtain ⟨j, hj, hs⟩ := z
      refine R.dist i j p (fun e => ?_) (.inl (by rw [hk]; exact q)) (.inr hj) hv hs
      subst e
      rw [hk, q] at hj
      cases hj
    | cel => exact absurd q hc
theorem sE_v {i : Nat} {n : Str} (hk : A.ks = C.ks) (hc : C.ks[i]? ≠ some .cel) (hN : X.N[i]? = some n) (hv : Vis X.env.scope n) (hd : (n == ("__debug__" : Str)) = false) (hcd : (n == ("__classdict__" : Str)) = false) : PE X (.Name n pos) (tE (C := C) G A (.v i)) := by
  refine (pe_var hN hv hd hcd).weak fun σ H Q ⟨S, e, r, e', R, h, P⟩ => ?_
  obtain ⟨d, h1, rfl, rfl⟩ := bnd_pr (by simpa [denE] using h : pr (getV e i) e = some (r, e'))
  obtain ⟨v, hs, hsl⟩ := R.getV h1
  exact ⟨v, hs, P.done R (Ext.refl H) (hsl.vr R hk hc hs)⟩
/-- a constant of the module -/
def GcOk (X : Cx) (A : Ac) (n : Str) (d : D) : Prop := ∃ u v, X.mg n = some u ∧ RelV v u ∧ Rep A.K (fun _ => True) (fun _ => none) d v
theorem Rep.all {K : PySem.W.Frag} {d : D} {v : V} (h : Rep K (fun _ => True) (fun _ => none) d v) (S : AS) (H : Hp) : Rep K S H d v :=
  (h.avoid (S' := S) fun _ _ => .inl trivial).kp (W := fun _ => False) ⟨fun _ _ h => (by cases h), fun _ _ h => (by cases h), fun _ h => absurd rfl h, fun _ _ _ h => (by cases h), fun _ ⟨_, h, _⟩ => (by cases h)⟩ fun _ z => z.elim
theorem sE_g {j : Nat} {n : Str} (hg : Gl X n) (hc : ∀ d, G.gc j = some d → GcOk X A n d) (hd : (n == ("__debug__" : Str)) = false) : PE X (.Name n pos) (tE (C := C) G A (.g j)) := by
  refine ⟨fun pins s σ H Q I h => ?_⟩
  obtain ⟨S, e, r, e', R, h, P⟩ := h
  obtain ⟨d, h1, rfl, rfl⟩ := bnd_pr (by simpa [denE] using h : pr (G.gc j) e = some (r, e'))
  obtain ⟨u, v, hm, rv, rp⟩ := hc d h1
  exact (pe_glob hg hm rv hd).run pins s σ H Q I (P.done R (Ext.refl H) (rp.all S H))

theorem sE_bin {op : Operator} (hK : X.K = A.K) (ha : PE X a (tE (C := C) G A x)) (hb : PE X b (tE (C := C) G A y)) : PE X (.BinOp a op b pos) (tE (C := C) G A (.bin op x y)) := by
  refine (pe_op (opr_bin op) ha hb).weak fun σ H Q ⟨S, e, r, e', R, h, P⟩ => ?_
  refine tE_then R (by simpa [denE] using h) P.err fun d e1 v H1 h1 k1 R1 v1 => ?_
  refine tE_then R1 h1 (P.shift k1).err fun d2 e2 v2 H2 h2 k2 R2 v2' => ?_
  obtain ⟨w, hw, rfl, rfl⟩ := bnd_pr h2
  rw [hK]
  exact ⟨CelAt A σ, S, d, d2, w, (v1.kp R k2).vw R.celD, v2'.vw R1.celD, hw, fun v H' x fr => ((P.shift k1).shift k2).done R2 x ⟨fr, by
    cases w <;> first | rfl | skip
    cases d <;> cases d2 <;> cases op <;> simp [binD] at hw⟩⟩
theorem sE_neg (ha : PE X a (tE (C := C) G A x)) : PE X (.UnaryOp .USub a pos) (tE (C := C) G A (.neg x)) := by
  refine (pe_un un_neg ha).weak fun σ H Q ⟨S, e, r, e', R, h, P⟩ => ?_
  refine tE_then R (by simpa [denE] using h) P.err fun d e1 v H1 h1 k1 R1 v1 => ?_
  cases d <;> simp only at h1 <;> try contradiction
  rename_i i
  cases h1
  obtain rfl := (v1.vw R.celD).int
  exact ⟨i, rfl, (P.shift k1).done R1 (Ext.refl _) ⟨.int _, rfl⟩⟩

/-! ### comparisons -/
def notSet : Expr → Bool
  | .Set _ _ _ => false
  | _ => true
theorem marks_of {op : CmpOp} {e : Expr} (h : notSet e = true) : behindInMarks op e = false := by
  cases e <;> first | rfl | cases h
theorem cmpD_bl {op : CmpOp} {a b d : D} (h : cmpD op a b = some d) : ∃ k, d = .bl k := by
  cases op <;> cases a <;> cases b <;> simp only [cmpD] at h <;> first
    | contradiction
    | (cases h; exact ⟨_, rfl⟩)
    | (split at h <;> first | contradiction | (cases h; exact ⟨_, rfl⟩))
    | (obtain ⟨k, _, rfl⟩ := Option.map_eq_some_iff.mp h; exact ⟨_, rfl⟩)
theorem sE_cmp {op : CmpOp} (hK : X.K = A.K) (hu : X.A.units + 102 < cLine) (hm : notSet b = true) (ha : PE X a (tE (C := C) G A x)) (hb : PE X b (tE (C := C) G A y)) : PE X (.Compare a [op] [b] pos) (tE (C := C) G A (.cmp op x y)) := by
  refine (pe_cmpR (opr_cmp hu op) ha hb (marks_of hm)).weak fun σ H Q ⟨S, e, r, e', R, h, P⟩ => ?_
  refine tE_then R (by simpa [denE] using h) P.err fun d e1 v H1 h1 k1 R1 v1 => ?_
  refine tE_then R1 h1 (P.shift k1).err fun d2 e2 v2 H2 h2 k2 R2 v2' => ?_
  obtain ⟨w, hw, rfl, rfl⟩ := bnd_pr h2
  rw [hK]
  refine ⟨CelAt A σ, S, d, d2, w, (v1.kp R k2).vw R.celD, v2'.vw R1.celD, hw, fun v rp => ((P.shift k1).shift k2).done R2 (Ext.refl _) ?_⟩
  obtain ⟨k, rfl⟩ := cmpD_bl hw
  exact ⟨rp, rfl⟩
/-- a test out of a value that is a truth -/
theorem sT_of {S : AS} {e : Envd} {σ : L2.St} {H : Hp} {Q : Bool → Hp → Prop} {r : Except Exc Bool} {e' : Envd} (R : SR A S e σ H) (h : tst (denE G x e) = some (r, e')) (P : PostB A S σ H Q r e') : tE (C := C) G A x σ H (fun v H' => ∃ k, v = .bl k ∧ Q k H') := by
  refine tE_then R (by simpa [tst] using h) P.err fun d e1 v H1 h1 k1 R1 v1 => ?_
  obtain ⟨w, hw, rfl, rfl⟩ := bnd_pr h1
  cases d <;> simp only [blD] at hw <;> try contradiction
  cases hw
  obtain rfl := (v1.vw R.celD).bl
  exact ⟨_, rfl, P _ H1 k1 R1 rfl⟩
theorem sT_cmp {op : CmpOp} (hK : X.K = A.K) (hu : X.A.units + 102 < cLine) (hm : notSet b = true) (ha : PE X a (tE (C := C) G A x)) (hb : PE X b (tE (C := C) G A y)) : PT X (.Compare a [op] [b] pos) (tT G A (.cmp op x y)) := by
  refine (pt_cmpR (opr_cmp hu op) ha hb (marks_of hm)).weak fun σ H Q ⟨S, e, r, e', R, h, P⟩ => ?_
  have h' : bnd (denE G x e) (fun d e1 => bnd (denE G y e1) fun d2 e2 => bnd (pr (cmpD op d d2) e2) fun w e3 => pr (blD w) e3) = some (r, e') := by
    have : tst (denE G (.cmp op x y) e) = some (r, e') := h
    unfold tst at this
    rw [← this]
    simp only [denE]
    cases denE G x e with
    | none => rfl
    | some o =>
      obtain ⟨o, e1⟩ := o
      cases o with
      | error _ => rfl
      | ok d =>
        simp only [bnd_ok]
        cases denE G y e1 with
        | none => rfl
        | some o =>
          obtain ⟨o, e2⟩ := o
          cases o <;> rfl
  refine tE_then (C := C) R h' P.err fun d e1 v H1 h1 k1 R1 v1 => ?_
  refine tE_then (C := C) R1 h1 (P.shift k1).err fun d2 e2 v2 H2 h2 k2 R2 v2' => ?_
  cases q : cmpD op d d2 with
  | none => rw [q] at h2; cases h2
  | some w =>
    rw [q] at h2
    obtain ⟨k, rfl⟩ := cmpD_bl q
    cases h2
    rw [hK]
    refine ⟨CelAt A σ, S, d, d2, _, (v1.kp R k2).vw R.celD, v2'.vw R1.celD, q, fun v rp => ?_⟩
    cases rp
    exact ⟨k, rfl, ((P.shift k1).shift k2) _ H2 (Kp.refl _ _) R2 rfl⟩
end
end Rf

set_option maxRecDepth 100000
set_option maxHeartbeats 1000000
/-! Rf8: chains, and, or, not, conditional expressions, items, slices, calls of built-ins. -/
namespace Rf
open PySem PySem.Spec PyProof.Rows L2
variable [TN]
section
variable {X : Cx} {a b c d : Expr} {ta tb tc td : TE} {pos : Pos}
/-- a op1 b op2 c op3 d -/
def tChain3 (r r' r'' : R2) (ta tb tc td : TE) : TE := fun σ H Q => ta σ H fun x H1 => tb σ H1 fun y H2 => r x y H2 fun z H3 => ∃ k, z = .bl k ∧
  (if k = true then tc σ H3 fun u H4 => r' y u H4 fun z' H5 => ∃ k', z' = .bl k' ∧ (if k' = true then td σ H5 fun w' H6 => r'' u w' H6 Q else Q (.bl false) H5) else Q (.bl false) H3)
theorem pe_chain3 {op op' op'' : CmpOp} {r r' r'' : R2} (ho : OpR X (compareOp op) r) (ho' : OpR X (compareOp op') r') (ho'' : OpR X (compareOp op'') r'') (ha : PE X a ta) (hb : PE X b tb) (hc : PE X c tc) (hd : PE X d td)
    (hm : lastMarks [op, op', op''] [b, c, d] = false) : PE X (.Compare a [op, op', op''] [b, c, d] pos) (tChain3 r r' r'' ta tb tc td) := by
  refine ⟨fun pins s σ H Q I h => ?_⟩
  refine Compare_chain (thn (ha.run pins s σ H _ I h) fun v s1 ⟨x, H1, I1, r1, q1⟩ => chain_link (thn (hb.run pins s1 σ H1 _ I1 q1) fun u s2 ⟨y, H2, I2, r2, q2⟩ =>
    thn (ho pins s2 σ H2 x y v u _ I2 r1 r2 q2) fun d s3 ⟨z, H3, I3, r3, k, e, q3⟩ => ?_)) hm
  subst e
  cases r3
  refine wpAny_truthy_bool ?_
  cases k with
  | false => exact ite_ff ⟨.bl false, H3, I3, rfl, q3⟩
  | true =>
    refine ite_tt (chain_link (thn (hc.run pins s3 σ H3 _ I3 q3) fun u' s4 ⟨y', H4, I4, r4, q4⟩ => thn (ho' pins s4 σ H4 y y' u u' _ I4 r2 r4 q4) fun d' s5 ⟨z', H5, I5, r5, k', e', q5⟩ => ?_))
    subst e'
    cases r5
    refine wpAny_truthy_bool ?_
    cases k' with
    | false => exact ite_ff ⟨.bl false, H5, I5, rfl, q5⟩
    | true => exact ite_tt (chain_last (thn (hd.run pins s5 σ H5 _ I5 q5) fun w' s6 ⟨z2, H6, I6, r6, q6⟩ => ho'' pins s6 σ H6 y' z2 u' w' Q I6 r4 r6 q6))
theorem pt_chain3 {op op' op'' : CmpOp} {r r' r'' : R2} (ho : OpR X (compareOp op) r) (ho' : OpR X (compareOp op') r') (ho'' : OpR X (compareOp op'') r'') (ha : PE X a ta) (hb : PE X b tb) (hc : PE X c tc) (hd : PE X d td)
    (hm : lastMarks [op, op', op''] [b, c, d] = false) : PT X (.Compare a [op, op', op''] [b, c, d] pos) (tTest (tChain3 r r' r'' ta tb tc td)) := by
  refine ⟨fun pins s σ H Q I h => ?_⟩
  refine isTrue_chain (thn (ha.run pins s σ H _ I h) fun v s1 ⟨x, H1, I1, r1, q1⟩ => test_link (thn (hb.run pins s1 σ H1 _ I1 q1) fun u s2 ⟨y, H2, I2, r2, q2⟩ =>
    thn (ho pins s2 σ H2 x y v u _ I2 r1 r2 q2) fun d s3 ⟨z, H3, I3, r3, k, e, q3⟩ => ?_)) hm
  subst e
  cases r3
  refine wpAny_truthy_bool ?_
  cases k with
  | false =>
    obtain ⟨k0, e', q'⟩ := q3
    cases e'
    exact ite_ff ⟨H3, I3, q'⟩
  | true =>
    refine ite_tt (test_link (thn (hc.run pins s3 σ H3 _ I3 q3) fun u' s4 ⟨y', H4, I4, r4, q4⟩ => thn (ho' pins s4 σ H4 y y' u u' _ I4 r2 r4 q4) fun d' s5 ⟨z', H5, I5, r5, k', e', q5⟩ => ?_))
    subst e'
    cases r5
    refine wpAny_truthy_bool ?_
    cases k' with
    | false =>
      obtain ⟨k0, e', q'⟩ := q5
      cases e'
      exact ite_ff ⟨H5, I5, q'⟩
    | true =>
      refine ite_tt (test_last (thn (hd.run pins s5 σ H5 _ I5 q5) fun w' s6 ⟨z2, H6, I6, r6, q6⟩ => thn (ho'' pins s6 σ H6 y' z2 u' w' _ I6 r4 r6 q6) fun d2 s7 ⟨z3, H7, I7, r7, k2, e2, q7⟩ => ?_))
      subst e2
      cases r7
      exact wpAny_truthy_bool ⟨H7, I7, q7⟩
end
section
variable {X : Cx} {C : Cfg} {G : Gam} {A : Ac} {a b c d : Expr} {x y z w : E} {pos : Pos}
theorem tst_bl {k : Option D} {e : Envd} {r : Except Exc Bool} {e' : Envd} (h : tst (pr k e) = some (r, e')) : ∃ b, k = some (.bl b) ∧ r = .ok b ∧ e' = e := by
  cases k with
  | none => cases h
  | some d =>
    have h' : pr (blD d) e = some (r, e') := h
    cases d <;> simp only [blD] at h' <;> try contradiction
    cases h'
    exact ⟨_, rfl, rfl, rfl⟩
theorem bnd_tst {α : Type} {k : Option D} {e : Envd} {f : Bool → Envd → Rs α} {o : Except Exc α × Envd} (h : bnd (tst (pr k e)) f = some o) : ∃ b, k = some (.bl b) ∧ f b e = some o := by
  cases q : tst (pr k e) with
  | none => rw [q] at h; cases h
  | some p =>
    obtain ⟨r, e1⟩ := p
    obtain ⟨b, rfl, rfl, rfl⟩ := tst_bl q
    exact ⟨b, rfl, by rw [q] at h; exact h⟩
theorem chn_go {o1 o2 : CmpOp} (hK : X.K = A.K) {σ : L2.St} {H : Hp} {Q : VK} {S : AS} {e : Envd} {r : Except Exc D} {e' : Envd} (R : SR A S e σ H) (h : denE G (.chn o1 o2 x y z) e = some (r, e')) (P : PostV A S σ .fr H Q r e') : tChain (rVal X.K (cmpD o1)) (rVal X.K (cmpD o2)) (tE (C := C) G A x) (tE (C := C) G A y) (tE (C := C) G A z) σ H Q := by
  refine tE_then R (by simpa [denE] using h) P.err fun d e1 v H1 h1 k1 R1 v1 => ?_
  refine tE_then R1 h1 (P.shift k1).err fun d2 e2 v2 H2 h2 k2 R2 v2' => ?_
  obtain ⟨b, hb, h3⟩ := bnd_tst h2
  have P2 := (P.shift k1).shift k2
  rw [hK]
  refine ⟨CelAt A σ, S, d, d2, _, (v1.kp R k2).vw R.celD, v2'.vw R1.celD, hb, fun v rp => ?_⟩
  cases rp
  refine ⟨b, rfl, ?_⟩
  cases b with
  | false =>
    simp only [Bool.false_eq_true, if_false] at h3 ⊢
    cases h3
    exact P2.done R2 (Ext.refl _) ⟨.bl _, rfl⟩
  | true =>
    simp only [if_true] at h3 ⊢
    refine tE_then R2 h3 P2.err fun d3 e3 v3 H3 h4 k3 R3 v3' => ?_
    obtain ⟨w, hw, rfl, rfl⟩ := bnd_pr h4
    refine ⟨CelAt A σ, S, d2, d3, w, (v2'.kp R1 k3).vw R1.celD, v3'.vw R2.celD, hw, fun v rp => ?_⟩
    obtain ⟨k, rfl⟩ := cmpD_bl hw
    exact (P2.shift k3).done R3 (Ext.refl _) ⟨rp, rfl⟩
theorem chn3_go {o1 o2 o3 : CmpOp} (hK : X.K = A.K) {σ : L2.St} {H : Hp} {Q : VK} {S : AS} {e : Envd} {r : Except Exc D} {e' : Envd} (R : SR A S e σ H) (h : denE G (.chn3 o1 o2 o3 x y z w) e = some (r, e')) (P : PostV A S σ .fr H Q r e') : tChain3 (rVal X.K (cmpD o1)) (rVal X.K (cmpD o2)) (rVal X.K (cmpD o3)) (tE (C := C) G A x) (tE (C := C) G A y) (tE (C := C) G A z) (tE (C := C) G A w) σ H Q := by
  refine tE_then R (by simpa [denE] using h) P.err fun d e1 v H1 h1 k1 R1 v1 => ?_
  refine tE_then R1 h1 (P.shift k1).err fun d2 e2 v2 H2 h2 k2 R2 v2' => ?_
  obtain ⟨b, hb, h3⟩ := bnd_tst h2
  have P2 := (P.shift k1).shift k2
  rw [hK]
  refine ⟨CelAt A σ, S, d, d2, _, (v1.kp R k2).vw R.celD, v2'.vw R1.celD, hb, fun v rp => ?_⟩
  cases rp
  refine ⟨b, rfl, ?_⟩
  cases b with
  | false =>
    simp only [Bool.false_eq_true, if_false] at h3 ⊢
    cases h3
    exact P2.done R2 (Ext.refl _) ⟨.bl _, rfl⟩
  | true =>
    simp only [if_true] at h3 ⊢
    refine tE_then R2 h3 P2.err fun d3 e3 v3 H3 h4 k3 R3 v3' => ?_
    obtain ⟨b', hb', h5⟩ := bnd_tst h4
    have P3 := P2.shift k3
    refine ⟨CelAt A σ, S, d2, d3, _, (v2'.kp R1 k3).vw R1.celD, v3'.vw R2.celD, hb', fun v rp => ?_⟩
    cases rp
    refine ⟨b', rfl, ?_⟩
    cases b' with
    | false =>
      simp only [Bool.false_eq_true, if_false] at h5 ⊢
      cases h5
      exact P3.done R3 (Ext.refl _) ⟨.bl _, rfl⟩
    | true =>
      simp only [if_true] at h5 ⊢
      refine tE_then R3 h5 P3.err fun d4 e4 v4 H4 h6 k4 R4 v4' => ?_
      obtain ⟨w, hw, rfl, rfl⟩ := bnd_pr h6
      refine ⟨CelAt A σ, S, d3, d4, w, (v3'.kp R2 k4).vw R2.celD, v4'.vw R3.celD, hw, fun v rp => ?_⟩
      obtain ⟨k, rfl⟩ := cmpD_bl hw
      exact (P3.shift k4).done R4 (Ext.refl _) ⟨rp, rfl⟩
theorem sE_chn {o1 o2 : CmpOp} (hK : X.K = A.K) (hu : X.A.units + 102 < cLine) (hm : notSet c = true) (ha : PE X a (tE (C := C) G A x)) (hb : PE X b (tE (C := C) G A y)) (hc : PE X c (tE (C := C) G A z)) : PE X (.Compare a [o1, o2] [b, c] pos) (tE (C := C) G A (.chn o1 o2 x y z)) :=
  (pe_chain (opr_cmp hu o1) (opr_cmp hu o2) ha hb hc (marks_of (op := o2) hm)).weak fun σ H Q ⟨S, e, r, e', R, h, P⟩ => chn_go hK R h P
theorem sE_chn3 {o1 o2 o3 : CmpOp} (hK : X.K = A.K) (hu : X.A.units + 102 < cLine) (hm : notSet d = true) (ha : PE X a (tE (C := C) G A x)) (hb : PE X b (tE (C := C) G A y)) (hc : PE X c (tE (C := C) G A z)) (hd : PE X d (tE (C := C) G A w)) : PE X (.Compare a [o1, o2, o3] [b, c, d] pos) (tE (C := C) G A (.chn3 o1 o2 o3 x y z w)) :=
  (pe_chain3 (opr_cmp hu o1) (opr_cmp hu o2) (opr_cmp hu o3) ha hb hc hd (marks_of (op := o3) hm)).weak fun σ H Q ⟨S, e, r, e', R, h, P⟩ => chn3_go hK R h P
/-- from a value's reading at a test -/
theorem post_tst {p : E} {S : AS} {e : Envd} {σ : L2.St} {H : Hp} {Q : Bool → Hp → Prop} {r : Except Exc Bool} {e' : Envd} (hk : kdE C p = .fr) (h : tst (denE G p e) = some (r, e')) (P : PostB A S σ H Q r e') :
    ∃ r1, denE G p e = some (r1, e') ∧ PostV A S σ (kdE C p) H (fun v H' => ∃ k, v = .bl k ∧ Q k H') r1 e' := by
  cases q : denE G p e with
  | none => rw [q] at h; cases h
  | some o =>
    obtain ⟨r1, e1⟩ := o
    rw [q] at h
    cases r1 with
    | error y => cases h; exact ⟨_, rfl, P⟩
    | ok d =>
      have h' : pr (blD d) e1 = some (r, e') := h
      cases d <;> simp only [blD] at h' <;> try contradiction
      cases h'
      refine ⟨_, rfl, fun v H' k1 R1 x => ?_⟩
      rw [hk] at x
      obtain ⟨x, _⟩ := x
      cases x
      exact ⟨_, rfl, P _ H' k1 R1 rfl⟩
theorem sT_chn {o1 o2 : CmpOp} (hK : X.K = A.K) (hu : X.A.units + 102 < cLine) (hm : notSet c = true) (ha : PE X a (tE (C := C) G A x)) (hb : PE X b (tE (C := C) G A y)) (hc : PE X c (tE (C := C) G A z)) : PT X (.Compare a [o1, o2] [b, c] pos) (tT G A (.chn o1 o2 x y z)) :=
  (pt_chain (opr_cmp hu o1) (opr_cmp hu o2) ha hb hc (marks_of (op := o2) hm)).weak fun σ H Q ⟨S, e, r, e', R, h, P⟩ => by
    obtain ⟨r1, h1, P1⟩ := post_tst (C := C) rfl h P
    exact chn_go hK R h1 P1
theorem sT_chn3 {o1 o2 o3 : CmpOp} (hK : X.K = A.K) (hu : X.A.units + 102 < cLine) (hm : notSet d = true) (ha : PE X a (tE (C := C) G A x)) (hb : PE X b (tE (C := C) G A y)) (hc : PE X c (tE (C := C) G A z)) (hd : PE X d (tE (C := C) G A w)) : PT X (.Compare a [o1, o2, o3] [b, c, d] pos) (tT G A (.chn3 o1 o2 o3 x y z w)) :=
  (pt_chain3 (opr_cmp hu o1) (opr_cmp hu o2) (opr_cmp hu o3) ha hb hc hd (marks_of (op := o3) hm)).weak fun σ H Q ⟨S, e, r, e', R, h, P⟩ => by
    obtain ⟨r1, h1, P1⟩ := post_tst (C := C) rfl h P
    exact chn3_go hK R h1 P1

/-! ### and, or, not -/
theorem tst_den_and {e : Envd} : tst (denE G (.and x y) e) = bnd (tst (denE G x e)) fun k e1 => if k = true then tst (denE G y e1) else some (.ok false, e1) := by
  simp only [denE]
  cases tst (denE G x e) with
  | none => rfl
  | some o =>
    obtain ⟨o, e1⟩ := o
    cases o with
    | error _ => rfl
    | ok k =>
      cases k with
      | false => rfl
      | true =>
        simp only [bnd_ok, if_true]
        cases tst (denE G y e1) with
        | none => rfl
        | some o =>
          obtain ⟨o, e2⟩ := o
          cases o <;> rfl
theorem tst_den_or {e : Envd} : tst (denE G (.or x y) e) = bnd (tst (denE G x e)) fun k e1 => if k = true then some (.ok true, e1) else tst (denE G y e1) := by
  simp only [denE]
  cases tst (denE G x e) with
  | none => rfl
  | some o =>
    obtain ⟨o, e1⟩ := o
    cases o with
    | error _ => rfl
    | ok k =>
      cases k with
      | true => rfl
      | false =>
        simp only [bnd_ok, Bool.false_eq_true, if_false]
        cases tst (denE G y e1) with
        | none => rfl
        | some o =>
          obtain ⟨o, e2⟩ := o
          cases o <;> rfl
theorem tst_den_not {e : Envd} : tst (denE G (.not x) e) = bnd (tst (denE G x e)) fun k e1 => some (.ok (!k), e1) := by
  simp only [denE]
  cases tst (denE G x e) with
  | none => rfl
  | some o =>
    obtain ⟨o, e1⟩ := o
    cases o <;> rfl
/-- a truth's value reading, what follows told by the truth -/
theorem tE_bl {S : AS} {e : Envd} {σ : L2.St} {H : Hp} {α : Type} {f : Bool → Envd → Rs α} {r : Except Exc α} {e' : Envd} {Q : VK} (R : SR A S e σ H) (h : bnd (tst (denE G x e)) f = some (r, e'))
    (pe : ∀ y, r = .error y → ∀ cls dd H', Kp (CelAt A σ) H H' → SR A S e' σ H' → ExR A H' y cls dd → A.XW cls dd H')
    (next : ∀ k e1 H1, f k e1 = some (r, e') → Kp (CelAt A σ) H H1 → SR A S e1 σ H1 → Q (.bl k) H1) : tE (C := C) G A x σ H Q := by
  cases q : denE G x e with
  | none => rw [q] at h; cases h
  | some o =>
    obtain ⟨r1, e1⟩ := o
    rw [q] at h
    cases r1 with
    | error y =>
      cases h
      exact ⟨S, e, .error y, _, R, q, pe y rfl⟩
    | ok d =>
      obtain ⟨b, hb, h2⟩ := bnd_tst (k := some d) h
      cases hb
      refine ⟨S, e, _, _, R, q, fun v H1 k R1 x => ?_⟩
      obtain rfl := (x.vw R.celD).bl
      exact next b e1 H1 h2 k R1
theorem sE_and {rest : List Expr} (ha : PE X a (tE (C := C) G A x)) (hb : PE X (.BoolOp .And (b :: rest) pos) (tE (C := C) G A y)) : PE X (.BoolOp .And (a :: b :: rest) pos) (tE (C := C) G A (.and x y)) := by
  refine (pe_and ha hb).weak fun σ H Q ⟨S, e, r, e', R, h, P⟩ => ?_
  refine tE_bl R (by simpa only [denE] using h) P.err fun k e1 H1 h1 k1 R1 => ⟨k, rfl, ?_⟩
  cases k with
  | false =>
    simp only [Bool.false_eq_true, if_false] at h1 ⊢
    cases h1
    exact (P.shift k1).done R1 (Ext.refl _) ⟨.bl _, rfl⟩
  | true =>
    simp only [if_true] at h1 ⊢
    refine tE_bl R1 h1 (P.shift k1).err fun k2 e2 H2 h2 k2' R2 => ?_
    cases h2
    exact ((P.shift k1).shift k2').done R2 (Ext.refl _) ⟨.bl _, rfl⟩
theorem sE_or {rest : List Expr} (ha : PE X a (tE (C := C) G A x)) (hb : PE X (.BoolOp .Or (b :: rest) pos) (tE (C := C) G A y)) : PE X (.BoolOp .Or (a :: b :: rest) pos) (tE (C := C) G A (.or x y)) := by
  refine (pe_or ha hb).weak fun σ H Q ⟨S, e, r, e', R, h, P⟩ => ?_
  refine tE_bl R (by simpa only [denE] using h) P.err fun k e1 H1 h1 k1 R1 => ⟨k, rfl, ?_⟩
  cases k with
  | true =>
    simp only [if_true] at h1 ⊢
    cases h1
    exact (P.shift k1).done R1 (Ext.refl _) ⟨.bl _, rfl⟩
  | false =>
    simp only [Bool.false_eq_true, if_false] at h1 ⊢
    refine tE_bl R1 h1 (P.shift k1).err fun k2 e2 H2 h2 k2' R2 => ?_
    cases h2
    exact ((P.shift k1).shift k2').done R2 (Ext.refl _) ⟨.bl _, rfl⟩
theorem sE_not (ha : PE X a (tE (C := C) G A x)) : PE X (.UnaryOp .Not a pos) (tE (C := C) G A (.not x)) := by
  refine (pe_not ha).weak fun σ H Q ⟨S, e, r, e', R, h, P⟩ => ?_
  refine tE_bl R (by simpa only [denE] using h) P.err fun k e1 H1 h1 k1 R1 => ⟨k, rfl, ?_⟩
  cases h1
  exact (P.shift k1).done R1 (Ext.refl _) ⟨.bl _, rfl⟩
theorem sW_and {rest : List Expr} (ha : PT X a (tT G A x)) (hb : PW X (.BoolOp .And (b :: rest) pos) (tT G A y)) : PW X (.BoolOp .And (a :: b :: rest) pos) (tT G A (.and x y)) := by
  refine (pw_and ha hb).weak fun σ H Q ⟨S, e, r, e', R, h, P⟩ => ?_
  rw [tst_den_and] at h
  refine tT_then R h P.err fun k e1 H1 h1 k1 R1 => ?_
  cases k with
  | false =>
    simp only [Bool.false_eq_true, if_false] at h1 ⊢
    cases h1
    exact (P.shift k1) _ _ (Kp.refl _ _) R1 rfl
  | true =>
    simp only [if_true] at h1 ⊢
    exact ⟨S, e1, r, e', R1, h1, P.shift k1⟩
theorem sW_or {rest : List Expr} (ha : PT X a (tT G A x)) (hb : PW X (.BoolOp .Or (b :: rest) pos) (tT G A y)) : PW X (.BoolOp .Or (a :: b :: rest) pos) (tT G A (.or x y)) := by
  refine (pw_or ha hb).weak fun σ H Q ⟨S, e, r, e', R, h, P⟩ => ?_
  rw [tst_den_or] at h
  refine tT_then R h P.err fun k e1 H1 h1 k1 R1 => ?_
  cases k with
  | true =>
    simp only [if_true] at h1 ⊢
    cases h1
    exact (P.shift k1) _ _ (Kp.refl _ _) R1 rfl
  | false =>
    simp only [Bool.false_eq_true, if_false] at h1 ⊢
    exact ⟨S, e1, r, e', R1, h1, P.shift k1⟩
theorem sT_not (ha : PT X a (tT G A x)) : PT X (.UnaryOp .Not a pos) (tT G A (.not x)) := by
  refine (pt_not ha).weak fun σ H Q ⟨S, e, r, e', R, h, P⟩ => ?_
  rw [tst_den_not] at h
  refine tT_then R h P.err fun k e1 H1 h1 k1 R1 => ?_
  cases h1
  exact (P.shift k1) _ _ (Kp.refl _ _) R1 rfl
/-- any other expression as a test -/
theorem sT_val (he : ∀ whole, isTrue a X.env whole = (do let v ← whole; standAt a.pos; holding [v] (truthy v))) (ha : PE X a (tE (C := C) G A x)) : PT X a (tT G A x) :=
  (pt_val ha he).weak fun σ H Q ⟨S, e, r, e', R, h, P⟩ => sT_of R h P
theorem VR.wk {S : AS} {σ : L2.St} {H H' : Hp} {dd : D} {v : V} {k k' : KD} (hs : ∀ a, S a → H a ≠ none) (hc : ∀ a, CelAt A σ a → H a ≠ none) (h : VR A S σ k H H' dd v) (hk : k = k' ∨ (k' = .vl ∧ k = .fr) ∨ k' = .br) : VR A S σ k' H H' dd v := by
  rcases hk with rfl | ⟨rfl, rfl⟩ | rfl
  · exact h
  · exact h.rep hs (.inl rfl)
  · exact h.vw hc
theorem kd_ite (p q r : E) : (kdE C q = kdE C (.ite p q r) ∨ (kdE C (.ite p q r) = .vl ∧ kdE C q = .fr) ∨ kdE C (.ite p q r) = .br) ∧ (kdE C r = kdE C (.ite p q r) ∨ (kdE C (.ite p q r) = .vl ∧ kdE C r = .fr) ∨ kdE C (.ite p q r) = .br) := by
  have e : kdE C (.ite p q r) = if kdE C q = .fr ∧ kdE C r = .fr then .fr else if (kdE C q = .fr ∨ kdE C q = .vl) ∧ (kdE C r = .fr ∨ kdE C r = .vl) then .vl else .br := by rw [kdE]
  rw [e]
  cases kdE C q <;> cases kdE C r <;> simp
theorem sE_ite (hc : PT X c (tT G A z)) (ha : PE X a (tE (C := C) G A x)) (hb : PE X b (tE (C := C) G A y)) : PE X (.IfExp c a b pos) (tE (C := C) G A (.ite z x y)) := by
  refine (pe_ifExp hc ha hb).weak fun σ H Q ⟨S, e, r, e', R, h, P⟩ => ?_
  refine tT_then R (by simpa only [denE] using h) P.err fun k e1 H1 h1 k1 R1 => ?_
  have kk := kd_ite (C := C) z x y
  have P1 := P.shift k1
  cases k with
  | true =>
    simp only [if_true] at h1 ⊢
    refine ⟨S, e1, r, e', R1, h1, ?_⟩
    cases r with
    | error _ => exact P1
    | ok d => exact fun v H' k2 R2 x => P1 v H' k2 R2 (x.wk R1.dom R1.celD kk.1)
  | false =>
    simp only [Bool.false_eq_true, if_false] at h1 ⊢
    refine ⟨S, e1, r, e', R1, h1, ?_⟩
    cases r with
    | error _ => exact P1
    | ok d => exact fun v H' k2 R2 x => P1 v H' k2 R2 (x.wk R1.dom R1.celD kk.2)
end
end Rf

set_option maxRecDepth 100000
set_option maxHeartbeats 1000000
/-! Rf9: arguments, displays, items, slices, built-in calls. -/
namespace Rf
open PySem PySem.Spec PyProof.Rows L2
variable [TN]

def notStar : Expr → Bool
  | .Starred _ _ => false
  | _ => true
theorem star_cons {e : Expr} {es : List Expr} {env : Env} (h : notStar e = true) : starEach (e :: es) env = (false, eval e env) :: starEach es env := by
  cases e <;> first | rfl | cases h
theorem star_any {env : Env} {pos : Pos} : ∀ {es : List Expr}, es.all notStar = true → (backTo pos (starEach es env)).any (·.1) = false
  | [], _ => rfl
  | e :: es, h => by
    rw [List.all_cons, Bool.and_eq_true] at h
    rw [star_cons h.1]
    have := star_any (env := env) (pos := pos) h.2
    simpa [backTo] using this

/-- the values of an argument list, each as it came -/
def VRs (C : Cfg) (A : Ac) (S : AS) (σ : L2.St) : Es → Hp → Hp → List D → List V → Prop
  | .nil, _, _, ds, vs => ds = [] ∧ vs = []
  | .cons x r, H, H', ds, vs => ∃ d ds' v vs' H1, ds = d :: ds' ∧ vs = v :: vs' ∧ (∀ a, H a ≠ none → H1 a ≠ none) ∧ (isOb d = true → (kdE C x = .fr ∨ kdE C x = .fo) → ∀ p, v = .ref p → H1 p ≠ none) ∧ VR A S σ (kdE C x) H H' d v ∧ VRs C A S σ r H1 H' ds' vs'
  | .cel i r, H, H', ds, vs => ∃ a vs', vs = .ref a :: vs' ∧ σ[i]? = some (some (V.ref a)) ∧ VRs C A S σ r H H' ds vs'
variable {C : Cfg} {G : Gam} {A : Ac}
def tA (C : Cfg) (G : Gam) (A : Ac) (es : Es) : TA := fun σ H Q => ∃ S e r e', SR A S e σ H ∧ denEs G es e = some (r, e') ∧ Post A S σ H (fun H' ds vs => VRs C A S σ es H H' ds vs) Q r e'
theorem VRs.kp {S : AS} {σ : L2.St} {e : Envd} {H0 : Hp} (R : SR A S e σ H0) : ∀ {es : Es} {H H1 H' : Hp} {ds : List D} {vs : List V}, (∀ a, H0 a ≠ none → H a ≠ none) → Kp (CelAt A σ) H1 H' → VRs C A S σ es H H1 ds vs → VRs C A S σ es H H' ds vs
  | .nil, _, _, _, _, _, _, _, h => h
  | .cons x r, H, H1, H', ds, vs, m, q, h => by
    obtain ⟨d, ds', v, vs', H2, e1, e2, h1, h2, h3, h4⟩ := h
    refine ⟨d, ds', v, vs', H2, e1, e2, h1, h2, ?_, VRs.kp R (fun a z => h1 a (m a z)) q h4⟩
    cases hk : kdE C x with
    | fr => rw [hk] at h3; exact ⟨h3.1.kp q R.celS fun a z => m a (R.celD a z), h3.2⟩
    | fo => rw [hk] at h3; exact Fr.kp q R.celS (fun a z => m a (R.celD a z)) h3
    | vl => rw [hk] at h3; exact Rep.kp q R.celS h3
    | br => rw [hk] at h3; exact Vw.kp q R.celS h3
  | .cel i r, H, H1, H', ds, vs, m, q, h => by
    obtain ⟨a, vs', e1, e2, h1⟩ := h
    exact ⟨a, vs', e1, e2, VRs.kp R m q h1⟩
theorem VRs.back {S : AS} {σ : L2.St} : ∀ {es : Es} {H H1 H' : Hp} {ds : List D} {vs : List V}, (∀ a, H a ≠ none → H1 a ≠ none) → VRs C A S σ es H1 H' ds vs → VRs C A S σ es H H' ds vs
  | .nil, _, _, _, _, _, _, h => h
  | .cons x r, H, H1, H', ds, vs, m, h => by
    obtain ⟨d, ds', v, vs', H2, e1, e2, h1, h2, h3, h4⟩ := h
    exact ⟨d, ds', v, vs', H2, e1, e2, fun a z => h1 a (m a z), h2, h3.back m, h4⟩
  | .cel i r, H, H1, H', ds, vs, m, h => by
    obtain ⟨a, vs', e1, e2, h1⟩ := h
    exact ⟨a, vs', e1, e2, VRs.back m h1⟩
theorem PostA.shift {es : Es} {S : AS} {σ : L2.St} {H H1 : Hp} {Q : List V → Hp → Prop} {r : Except Exc (List D)} {e' : Envd} (q : Kp (CelAt A σ) H H1) (h : Post A S σ H (fun H' ds vs => VRs C A S σ es H H' ds vs) Q r e') : Post A S σ H1 (fun H' ds vs => VRs C A S σ es H1 H' ds vs) Q r e' := by
  cases r with
  | ok d => exact fun v H' q' R' x => h v H' (q.trans q') R' (x.back q.dom)
  | error x => exact fun cls dd H' q' R' y => h cls dd H' (q.trans q') R' y
section
variable {X : Cx} {a b : Expr} {x y : E} {es : Es} {as : List Expr} {pos : Pos}
theorem sA_nil : PA X [] (tA C G A .nil) := by
  refine ⟨fun po pins s σ H Q I ⟨S, e, r, e', R, h, P⟩ => ?_⟩
  have h' : some (Except.ok ([] : List D), e) = some (r, e') := by simpa [denEs] using h
  cases h'
  exact pa_nil.run po pins s σ H Q I (P [] H (Kp.refl _ _) R ⟨rfl, rfl⟩)
theorem PAweak {X : Cx} {e : List Expr} {t t' : TA} (h : PA X e t) (m : ∀ σ H Q, t' σ H Q → t σ H Q) : PA X e t' := ⟨fun po pins s σ H Q I q => h.run po pins s σ H Q I (m σ H Q q)⟩
theorem tA_then {α : Type} {f : List D → Envd → Rs α} {S : AS} {σ : L2.St} {e : Envd} {H : Hp} {r : Except Exc α} {e' : Envd} {Q : List V → Hp → Prop} (R : SR A S e σ H) (h : bnd (denEs G es e) f = some (r, e'))
    (pe : ∀ y, r = .error y → ∀ cls dd H', Kp (CelAt A σ) H H' → SR A S e' σ H' → ExR A H' y cls dd → A.XW cls dd H')
    (next : ∀ ds e1 vs H1, f ds e1 = some (r, e') → Kp (CelAt A σ) H H1 → SR A S e1 σ H1 → VRs C A S σ es H H1 ds vs → Q vs H1) : tA C G A es σ H Q := by
  cases q : denEs G es e with
  | none => rw [q] at h; cases h
  | some o =>
    obtain ⟨r1, e1⟩ := o
    rw [q] at h
    cases r1 with
    | error y =>
      cases h
      exact ⟨S, e, .error y, _, R, q, pe y rfl⟩
    | ok d => exact ⟨S, e, .ok d, e1, R, q, fun v H1 k R1 x => next d e1 v H1 h k R1 x⟩
theorem sA_cons (hs : notStar a = true) (ha : PE X a (tE (C := C) G A x)) (hr : PA X as (tA C G A es)) : PA X (a :: as) (tA C G A (.cons x es)) := by
  refine PAweak (pa_cons ha hr (star_cons hs)) fun σ H Q ⟨S, e, r, e', R, h, P⟩ => ?_
  refine tE_then R (by simpa only [denEs] using h) P.err fun d e1 v H1 h1 k1 R1 v1 => ?_
  refine tA_then R1 h1 (fun y hy => (Post.err P y hy · · · <| k1.trans ·)) fun ds e2 vs H2 h2 k2 R2 v2 => ?_
  cases h2
  refine P (v :: vs) H2 (k1.trans k2) R2 ⟨d, ds, v, vs, H1, rfl, rfl, k1.dom, fun ho hk p hp => ?_, v1.kp R k2, v2⟩
  subst hp
  rcases hk with hk | hk
  · rw [hk] at v1
    have v1' := v1.1
    cases d <;> first | (obtain ⟨q, e, _, o⟩ := v1'; cases e; exact o.dom) | cases ho
  · rw [hk] at v1
    have v1' : Fr A.K S H H1 d (.ref p) := v1
    cases d <;> first | (obtain ⟨q, e, _, o⟩ := v1'; cases e; exact o.dom) | cases ho
theorem sA_cel {i : Nat} {n : Str} (hc : A.ks[i]? = some .cel) (hN : X.N[i]? = some n) (hv : Vis X.env.scope n) (hd : (n == ("__debug__" : Str)) = false) (hcd : (n == ("__classdict__" : Str)) = false)
    (hr : PA X as (tA C G A es)) : PA X (.Name n pos :: as) (tA C G A (.cel i es)) := by
  refine PAweak (pa_cons (pe_var (pos := pos) hN hv hd hcd) hr rfl) fun σ H Q ⟨S, e, r, e', R, h, P⟩ => ?_
  have h' : bnd (pr (getV e i) e) (fun _ e0 => denEs G es e0) = some (r, e') := by simpa only [denEs] using h
  cases hd : getV e i with
  | none => rw [hd] at h'; cases h'
  | some d =>
  rw [hd] at h'
  have h : denEs G es e = some (r, e') := h'
  obtain ⟨v, hs, hsl⟩ := R.getV hd
  rw [hc] at hsl
  obtain ⟨p, rfl, h1, h2, h3⟩ := hsl
  refine ⟨.ref p, hs, S, e, r, e', R, h, ?_⟩
  cases r with
  | error y => exact P
  | ok ds => exact fun vs H' k R' x => P (.ref p :: vs) H' k R' ⟨p, vs, rfl, hs, x⟩

/-- no names to be changed among them -/
def plainEs : Es → Bool
  | .nil => true
  | .cons _ r => plainEs r
  | .cel _ _ => false
/-- all of them may be kept -/
def keepEs (C : Cfg) : Es → Bool
  | .nil => true
  | .cons x r => (decide (kdE C x = .fr) || decide (kdE C x = .vl)) && keepEs C r
  | .cel _ _ => false
theorem VRs.rep {S : AS} {σ : L2.St} : ∀ {es : Es} {H H' : Hp} {ds : List D} {vs : List V}, keepEs C es = true → (∀ a, S a → H a ≠ none) → VRs C A S σ es H H' ds vs → RepL A.K S H' ds vs
  | .nil, _, _, _, _, _, _, h => by obtain ⟨rfl, rfl⟩ := h; exact .nil
  | .cons x r, H, H', ds, vs, hk, hs, h => by
    obtain ⟨d, ds', v, vs', H2, rfl, rfl, h1, h2, h3, h4⟩ := h
    rw [keepEs, Bool.and_eq_true, Bool.or_eq_true] at hk
    exact .cons (h3.rep hs (hk.1.imp of_decide_eq_true of_decide_eq_true)) (VRs.rep hk.2 (fun a z => h1 a (hs a z)) h4)
  | .cel i r, _, _, _, _, hk, _, _ => by cases hk
theorem VRs.vw {S : AS} {σ : L2.St} : ∀ {es : Es} {H H' : Hp} {ds : List D} {vs : List V}, plainEs es = true → (∀ a, CelAt A σ a → H a ≠ none) → VRs C A S σ es H H' ds vs → VwL A.K (CelAt A σ) S H' ds vs
  | .nil, _, _, _, _, _, _, h => by obtain ⟨rfl, rfl⟩ := h; exact .nil
  | .cons x r, H, H', ds, vs, hk, hs, h => by
    obtain ⟨d, ds', v, vs', H2, rfl, rfl, h1, h2, h3, h4⟩ := h
    exact .cons (h3.vw hs) (VRs.vw (es := r) hk (fun a z => h1 a (hs a z)) h4)
  | .cel i r, _, _, _, _, hk, _, _ => by cases hk
def lenEs : Es → Nat
  | .nil => 0
  | .cons _ r => lenEs r + 1
  | .cel _ r => lenEs r + 1
theorem VRs.len {S : AS} {σ : L2.St} : ∀ {es : Es} {H H' : Hp} {ds : List D} {vs : List V}, VRs C A S σ es H H' ds vs → vs.length = lenEs es
  | .nil, _, _, _, _, h => by obtain ⟨rfl, rfl⟩ := h; rfl
  | .cons x r, H, H', ds, vs, h => by
    obtain ⟨d, ds', v, vs', H2, rfl, rfl, h1, h2, h3, h4⟩ := h
    exact congrArg (· + 1) (VRs.len h4)
  | .cel i r, _, _, _, _, h => by
    obtain ⟨a, vs', rfl, e2, h1⟩ := h
    exact congrArg (· + 1) (VRs.len h1)
theorem sE_tup {k : Nat} (hk : keepEs C es = true) (hl : lenEs es ≤ 1000) (ha : PA X as (tA C G A es)) : PE X (.Tuple as k pos) (tE (C := C) G A (.tup es)) := by
  refine (pe_tup ha).weak fun σ H Q ⟨S, e, r, e', R, h, P⟩ => ?_
  refine tA_then R (by simpa only [denE] using h) P.err fun ds e1 vs H1 h1 k1 R1 v1 => ?_
  cases h1
  have hz := v1.len
  refine ⟨by rw [lim_eq]; show vs.length ≤ 16777216; omega, fun p hp => (P.shift k1).done R1 (Ext.new hp) ⟨.tup (SqT.of upd_same) ((v1.rep hk R.dom).kp (Kp.ext (Ext.new hp)) fun b z => (z : False).elim), rfl⟩⟩
theorem sE_lst (hk : keepEs C es = true) (hl : lenEs es ≤ 1000) (ha : PA X as (tA C G A es)) : PE X (.List as pos) (tE (C := C) G A (.lst es)) := by
  refine (pe_lst ha).weak fun σ H Q ⟨S, e, r, e', R, h, P⟩ => ?_
  refine tA_then R (by simpa only [denE] using h) P.err fun ds e1 vs H1 h1 k1 R1 v1 => ?_
  cases h1
  have hz := v1.len
  refine ⟨by rw [lim_eq]; show vs.length ≤ 16777216; omega, fun p hp => (P.shift k1).done R1 (Ext.new hp) ⟨⟨p, rfl, hp, _, upd_same, (v1.rep hk R.dom).newP hp⟩, rfl⟩⟩
theorem sE_dic : PE X (.Dict [] [] pos) (tE (C := C) G A .dic) := by
  refine pe_dnewK.weak fun σ H Q ⟨S, e, r, e', R, h, P⟩ => ?_
  have h' : some (Except.ok (D.dic []), e) = some (r, e') := by simpa [denE] using h
  cases h'
  exact fun p hp => P.done R (Ext.new hp) ⟨p, rfl, hp, [], upd_same, .nil, List.nodup_nil⟩

/-! ### items, slices -/
def notSlice : Expr → Bool
  | .Slice _ _ _ _ => false
  | _ => true
theorem plainIx_of {e : Expr} (h : notSlice e = true) : PlainIx e := by
  intro o i
  cases e <;> first | rfl | cases h
theorem sE_ix (hK : X.K = A.K) (hu : X.A.units + 102 < cLine) (hn : notSlice b = true) (ha : PE X a (tE (C := C) G A x)) (hb : PE X b (tE (C := C) G A y)) : PE X (.Subscript a b pos) (tE (C := C) G A (.ix x y)) := by
  refine (pe_ix (ixr_all hu) ha hb (plainIx_of hn)).weak fun σ H Q ⟨S, e, r, e', R, h, P⟩ => ?_
  refine tE_then R (by simpa only [denE] using h) P.err fun d e1 v H1 h1 k1 R1 v1 => ?_
  refine tE_then R1 h1 (P.shift k1).err fun d2 e2 v2 H2 h2 k2 R2 v2' => ?_
  obtain ⟨w, hw, rfl, rfl⟩ := bnd_pr h2
  rw [hK]
  exact ⟨CelAt A σ, S, d, d2, w, (v1.kp R k2).vw R.celD, v2'.vw R1.celD, hw, fun v rp => ((P.shift k1).shift k2).done R2 (Ext.refl _) rp⟩
/-- the slot's content, looked at -/
theorem SR.look {S : AS} {e : Envd} {σ : L2.St} {H : Hp} (R : SR A S e σ H) {i : Nat} {d : D} (hk : ∃ k, A.ks[i]? = some k) (h : Rf.getV e i = some d) : ∃ v, σ[i]? = some (some v) ∧ Vw A.K (fun _ => False) S H d v := by
  obtain ⟨v, hs, hsl⟩ := R.getV h
  refine ⟨v, hs, ?_⟩
  obtain ⟨k, hk⟩ := hk
  rw [hk] at hsl
  cases k with
  | val => exact .inl hsl
  | bor =>
    rcases hsl with z | ⟨a, e1, e2, e3⟩
    · exact .inl z
    · exact .inr ⟨a, e1, fun z => z, e3⟩
  | own => obtain ⟨a, e1, _, _, e3⟩ := hsl; exact .inr ⟨a, e1, fun z => z, e3⟩
  | cel => obtain ⟨a, e1, _, _, e3⟩ := hsl; exact .inr ⟨a, e1, fun z => z, e3⟩
theorem SR.look' {S : AS} {e : Envd} {σ : L2.St} {H : Hp} (R : SR A S e σ H) {i : Nat} {d : D} {v : V} (hs : σ[i]? = some (some v)) (h : Rf.getV e i = some d) : Vw A.K (fun _ => False) S H d v := by
  obtain ⟨v', hs', hsl⟩ := R.getV h
  rw [hs] at hs'
  cases hs'
  cases hk : A.ks[i]? with
  | none => rw [hk] at hsl; exact hsl.elim
  | some k =>
    obtain ⟨v', hs', hv⟩ := R.look ⟨k, hk⟩ h
    rw [hs] at hs'
    cases hs'
    exact hv
theorem sE_cix {i : Nat} {n : Str} {p1 : Pos} (hK : X.K = A.K) (hu : X.A.units + 102 < cLine) (hN : X.N[i]? = some n) (hv : Vis X.env.scope n) (hd : (n == ("__debug__" : Str)) = false) (hcd : (n == ("__classdict__" : Str)) = false)
    (hn : notSlice b = true) (hb : PE X b (tE (C := C) G A y)) : PE X (.Subscript (.Name n p1) b pos) (tE (C := C) G A (.cix i y)) := by
  refine (pe_ix (ixr_all hu) (pe_var hN hv hd hcd) hb (plainIx_of hn)).weak fun σ H Q ⟨S, e, r, e', R, h, P⟩ => ?_
  have h' : bnd (pr (getV e i) e) (fun _ e0 => bnd (denE G y e0) fun d2 e1 => pr ((getV e1 i).bind fun x => ixD x d2) e1) = some (r, e') := by simpa only [denE] using h
  cases hd : getV e i with
  | none => rw [hd] at h'; cases h'
  | some d0 =>
  rw [hd] at h'
  obtain ⟨v0, hs, _⟩ := R.getV hd
  refine ⟨v0, hs, tE_then R h' P.err fun d2 e1 v2 H1 h1 k1 R1 v1 => ?_⟩
  obtain ⟨w, hw, rfl, rfl⟩ := bnd_pr h1
  cases hg : getV e' i with
  | none => rw [hg] at hw; cases hw
  | some d1 =>
  rw [hg] at hw
  have hw' : ixD d1 d2 = some w := hw
  rw [hK]
  exact ⟨fun _ => False, S, d1, d2, w, R1.look' hs hg, (v1.vw R.celD).less fun _ z => (z : False).elim, hw', fun v rp => (P.shift k1).done R1 (Ext.refl _) rp⟩
theorem sE_cin {op : CmpOp} {i : Nat} {n : Str} {p1 : Pos} (hK : X.K = A.K) (hu : X.A.units + 102 < cLine) (hN : X.N[i]? = some n) (hv : Vis X.env.scope n) (hd : (n == ("__debug__" : Str)) = false) (hcd : (n == ("__classdict__" : Str)) = false)
    (ha : PE X a (tE (C := C) G A x)) : PE X (.Compare a [op] [.Name n p1] pos) (tE (C := C) G A (.cin op x i)) := by
  refine (pe_cmpR (opr_cmp hu op) ha (pe_var hN hv hd hcd) (marks_of (e := .Name n p1) rfl)).weak fun σ H Q ⟨S, e, r, e', R, h, P⟩ => ?_
  refine tE_then R (by simpa only [denE] using h) P.err fun d2 e1 v2 H1 h1 k1 R1 v1 => ?_
  obtain ⟨w, hw, rfl, rfl⟩ := bnd_pr h1
  cases hg : getV e' i with
  | none => rw [hg] at hw; cases hw
  | some d1 =>
  rw [hg] at hw
  have hw' : cmpD op d2 d1 = some w := hw
  obtain ⟨v0, hs, _⟩ := R1.getV hg
  rw [hK]
  refine ⟨v0, hs, fun _ => False, S, d2, d1, w, (v1.vw R.celD).less fun _ z => (z : False).elim, R1.look' hs hg, hw', fun v rp => (P.shift k1).done R1 (Ext.refl _) ?_⟩
  obtain ⟨k, rfl⟩ := cmpD_bl hw'
  exact ⟨rp, rfl⟩
def tO (C : Cfg) (G : Gam) (A : Ac) (o : Eo) : TO := fun σ H Q => ∃ S e r e', SR A S e σ H ∧ denEo G o e = some (r, e') ∧ Post A S σ H (fun _ d v => v = d) Q r e'
theorem PostO.shift {S : AS} {σ : L2.St} {H H1 : Hp} {Q : Option Int → Hp → Prop} {r : Except Exc (Option Int)} {e' : Envd} (q : Kp (CelAt A σ) H H1) (h : Post A S σ H (fun _ d v => v = d) Q r e') : Post A S σ H1 (fun _ d v => v = d) Q r e' := by
  cases r with
  | ok d => exact fun v H' q' R' x => h v H' (q.trans q') R' x
  | error x => exact fun cls dd H' q' R' y => h cls dd H' (q.trans q') R' y
theorem tO_then {o : Eo} {α : Type} {f : Option Int → Envd → Rs α} {S : AS} {σ : L2.St} {e : Envd} {H : Hp} {r : Except Exc α} {e' : Envd} {Q : Option Int → Hp → Prop} (R : SR A S e σ H) (h : bnd (denEo G o e) f = some (r, e'))
    (pe : ∀ y, r = .error y → ∀ cls dd H', Kp (CelAt A σ) H H' → SR A S e' σ H' → ExR A H' y cls dd → A.XW cls dd H')
    (next : ∀ d e1 H1, f d e1 = some (r, e') → Kp (CelAt A σ) H H1 → SR A S e1 σ H1 → Q d H1) : tO C G A o σ H Q := by
  cases q : denEo G o e with
  | none => rw [q] at h; cases h
  | some o =>
    obtain ⟨r1, e1⟩ := o
    rw [q] at h
    cases r1 with
    | error y =>
      cases h
      exact ⟨S, e, .error y, _, R, q, pe y rfl⟩
    | ok d => exact ⟨S, e, .ok d, e1, R, q, fun v H1 k R1 x => by cases x; exact next d e1 H1 h k R1⟩
theorem POweak {X : Cx} {e : Option Expr} {t t' : TO} (h : PO X e t) (m : ∀ σ H Q, t' σ H Q → t σ H Q) : PO X e t' := ⟨fun pins s σ H Q I q => h.run pins s σ H Q I (m σ H Q q)⟩
theorem sO_no : PO X none (tO C G A .no) := POweak po_none fun σ H Q ⟨S, e, r, e', R, h, P⟩ => by
  have h' : some (Except.ok (none : Option Int), e) = some (r, e') := by simpa [denEo] using h
  cases h'
  exact P _ H (Kp.refl _ _) R rfl
theorem sO_so (ha : PE X a (tE (C := C) G A x)) : PO X (some a) (tO C G A (.so x)) := POweak (po_some ha) fun σ H Q ⟨S, e, r, e', R, h, P⟩ => by
  refine tE_then R (by simpa only [denEo] using h) P.err fun d e1 v H1 h1 k1 R1 v1 => ?_
  cases d <;> simp only at h1 <;> try contradiction
  cases h1
  obtain rfl := (v1.vw R.celD).int
  exact ⟨_, rfl, (PostO.shift k1 P) _ _ (Kp.refl _ _) R1 rfl⟩
theorem sE_sl {lo hi : Option Expr} {l h : Eo} {p2 : Pos} (hK : X.K = A.K) (ha : PE X a (tE (C := C) G A x)) (hl : PO X lo (tO C G A l)) (hh : PO X hi (tO C G A h)) : PE X (.Subscript a (.Slice lo hi none p2) pos) (tE (C := C) G A (.sl x l h)) := by
  refine (pe_slice slr_all ha hl hh).weak fun σ H Q ⟨S, e, r, e', R, h, P⟩ => ?_
  refine tE_then R (by simpa only [denE] using h) P.err fun d e1 v H1 h1 k1 R1 v1 => ?_
  refine tO_then R1 h1 (P.shift k1).err fun l e2 H2 h2 k2 R2 => ?_
  refine tO_then R2 h2 ((P.shift k1).shift k2).err fun l2 e3 H3 h3 k3 R3 => ?_
  obtain ⟨w, hw, rfl, rfl⟩ := bnd_pr h3
  rw [hK]
  refine ⟨CelAt A σ, S, d, w, ((v1.kp R k2).kp R k3).vw R.celD, hw, fun v H' x fr => (((P.shift k1).shift k2).shift k3).done R3 x ⟨fr, ?_⟩⟩
  cases d <;> simp only [slD] at hw <;> first | contradiction | (cases hw; rfl)

/-! ### built-in functions -/
theorem BI.boot (b : BI) : bootBuiltins b.name = some b.val := by cases b <;> decide +kernel
theorem BI.nn (b : BI) : b.name ≠ "__name__" := by cases b <;> decide +kernel
theorem BI.nd (b : BI) : (b.name == ("__debug__" : Str)) = false := by cases b <;> decide +kernel
theorem bi_nodic {b : BI} {ds : List D} {d : D} (hb : b ≠ .dict) (h : biD b ds = some d) : isDic d = false := by
  unfold biD at h
  split at h <;> first
    | exact absurd rfl hb
    | (cases h; rfl)
    | (split at h <;> first | (cases h; rfl) | contradiction)
    | (obtain ⟨k, _, rfl⟩ := Option.map_eq_some_iff.mp h; rfl)
    | (obtain ⟨k, _, hk⟩ := Option.bind_eq_some_iff.mp h; split at hk <;> first | (cases hk; rfl) | contradiction)
    | contradiction
theorem pe_callBI {es : List Expr} {t : TA} {e : Expr} {p : Pos} (hc : X.calm = true) (bi : BI) (hg : Gl X bi.name) (hm : X.mg bi.name = none) (hs : notStar e = true) (hss : es.all notStar = true) (ha : PA X (e :: es) t) :
    PE X (.Call (.Name bi.name p) (e :: es) [] pos) (tCB (fun xs H Q => ∃ (W S : AS) (ds : List D) (d : D), VwL X.K W S H ds xs ∧ biD bi ds = some d ∧ ∀ v H', Ext H H' → Fr X.K S H H' d v → Q v H') t) := by
  have hr := callr_bi (X := X) hc bi
  have hb := bi.boot
  have hn := bi.nn
  have hd := bi.nd
  cases bi <;> first
    | exact pe_callB hr hg hm hb ha hn hd (star_cons hs) (star_any hss)
    | exact pe_callTy hr hg hm hb ha hn hd (star_cons hs) (star_any hss)
theorem sE_bi {n : Str} {p : Pos} (hK : X.K = A.K) (hc : X.calm = true) {bi : BI} (hn : n = bi.name) (hg : Gl X n) (hm : X.mg n = none) (hp : plainEs es = true) (hs : notStar a = true) (hss : as.all notStar = true) (ha : PA X (a :: as) (tA C G A es)) :
    PE X (.Call (.Name n p) (a :: as) [] pos) (tE (C := C) G A (.bi bi es)) := by
  subst hn
  refine (pe_callBI hc bi hg hm hs hss ha).weak fun σ H Q ⟨S, e, r, e', R, h, P⟩ => ?_
  refine tA_then R (by simpa only [denE] using h) P.err fun ds e1 vs H1 h1 k1 R1 v1 => ?_
  obtain ⟨w, hw, rfl, rfl⟩ := bnd_pr h1
  rw [hK]
  exact ⟨CelAt A σ, S, ds, w, v1.vw hp R.celD, hw, fun v H' x fr => (P.shift k1).done R1 x (by
    unfold kdE
    split
    · exact fr
    · rename_i hb; exact ⟨fr, bi_nodic hb hw⟩)⟩

/-! ### isinstance -/
theorem isi_ty {K : PySem.W.Frag} {W S : AS} {H : Hp} {d : D} {v : V} {t : Ty} {k : Bool} (hv : Vw K W S H d v) (h : isiD d t = some k) : ∃ ty, TyX K H v (.type ty) ∧ kitB ty t.py = some k := by
  have sq : ∀ {a : Addr} {xs : List V}, SqL K H a xs → TyX K H (.ref a) (.type "list") := fun h => by
    rcases h with (h | ⟨o, h⟩) | ⟨o, its, n, h1, h2, _⟩
    · exact .base (.lst h)
    · exact .base (.frz h)
    · exact .kList h1 h2
  have st : ∀ {a : Addr} {xs : List V}, SqT K H a xs → TyX K H (.ref a) (.type "tuple") := fun h => by
    rcases h with (h | ⟨o, h⟩) | ⟨o, its, n, h1, h2, _⟩
    · exact .base (.tup h)
    · exact .fTuple h
    · exact .kTuple h1 h2
  cases d with
  | non => obtain rfl := hv.non; exact ⟨_, .base .non, by cases t <;> simp only [isiD] at h <;> cases h <;> decide +kernel⟩
  | bl b => obtain rfl := hv.bl; exact ⟨_, .base (.bl b), by cases t <;> simp only [isiD] at h <;> cases h <;> decide +kernel⟩
  | int b => obtain rfl := hv.int; exact ⟨_, .base (.int b), by cases t <;> simp only [isiD] at h <;> cases h <;> decide +kernel⟩
  | str b => obtain rfl := hv.str; exact ⟨_, .base (.str b), by cases t <;> simp only [isiD] at h <;> cases h <;> decide +kernel⟩
  | tup b => obtain ⟨p, xs, rfl, h1, _⟩ := hv.tup; exact ⟨_, st h1, by cases t <;> simp only [isiD] at h <;> cases h <;> decide +kernel⟩
  | lst b => obtain ⟨p, xs, rfl, h1, _⟩ := hv.lst; exact ⟨_, sq h1, by cases t <;> simp only [isiD] at h <;> cases h <;> decide +kernel⟩
  | _ => cases t <;> simp [isiD] at h
theorem Ty.boot (t : Ty) : bootBuiltins (t.py : Str) = some (.type t.py) := by cases t <;> decide +kernel
theorem sE_isi {n m : Str} {p p2 : Pos} {t : Ty} (hK : X.K = A.K) (hn : n = "isinstance") (hg : Gl X n) (hm : X.mg n = none) (ht : m = (t.py : Str)) (hg2 : Gl X m) (hm2 : X.mg m = none) (hs : notStar a = true) (ha : PE X a (tE (C := C) G A x)) :
    PE X (.Call (.Name n p) [a, .Name m p2] [] pos) (tE (C := C) G A (.isi x t)) := by
  subst hn ht
  have pb : PE X (.Name (t.py : Str) p2) (tC (.ty t.py)) := pe_bltn hg2 hm2 t.boot rfl (by cases t <;> decide +kernel) (by cases t <;> decide +kernel)
  refine (pe_callB call_isi hg hm (by decide +kernel) (pa_cons ha (pa_cons pb pa_nil rfl) (star_cons hs)) (by decide) (by decide) (star_cons hs) (star_any (es := [.Name (t.py : Str) p2]) rfl)).weak fun σ H Q ⟨S, e, r, e', R, h, P⟩ => ?_
  refine tE_then R (by simpa only [denE] using h) P.err fun d e1 v H1 h1 k1 R1 v1 => ?_
  obtain ⟨w, hw, rfl, rfl⟩ := bnd_pr h1
  obtain ⟨k, hk, rfl⟩ := Option.map_eq_some_iff.mp hw
  obtain ⟨ty, h2, h3⟩ := isi_ty (v1.vw R.celD) hk
  rw [hK]
  exact ⟨v, .ty t.py, .type ty, .type t.py, k, rfl, .ty _, h2, kit_ty h3, (P.shift k1).done R1 (Ext.refl _) ⟨.bl k, rfl⟩⟩
end
end Rf

set_option maxRecDepth 100000
set_option maxHeartbeats 1000000
/-! Rf10: what a def promises; a call. -/
namespace Rf
open PySem PySem.Spec PyProof.Rows L2
variable [TN]

/-- the addresses handed in to be changed -/
def celAs : List PK → List V → List Addr
  | .cel :: pk, .ref a :: vs => a :: celAs pk vs
  | .cel :: pk, _ :: vs => celAs pk vs
  | _ :: pk, _ :: vs => celAs pk vs
  | _, _ => []
def ArgsR (K : PySem.W.Frag) (W S : AS) (H : Hp) : List PK → List V → List D → List D → Prop
  | [], vs, ds, ks => vs = [] ∧ ds = [] ∧ ks = []
  | .val :: pk, vs, ds, ks => ∃ v vs' d ds', vs = v :: vs' ∧ ds = d :: ds' ∧ Rep K S H d v ∧ ArgsR K W S H pk vs' ds' ks
  | .bor :: pk, vs, ds, ks => ∃ v vs' d ds', vs = v :: vs' ∧ ds = d :: ds' ∧ Vw K W S H d v ∧ ArgsR K W S H pk vs' ds' ks
  | .cel :: pk, vs, ds, ks => ∃ a vs' k ks', vs = .ref a :: vs' ∧ ks = k :: ks' ∧ S a ∧ Ob K S H k a ∧ ArgsR K W S H pk vs' ds ks'
def CellsR (K : PySem.W.Frag) (S : AS) (H : Hp) : List Addr → List D → Prop
  | [], ks => ks = []
  | a :: as, ks => ∃ k ks', ks = k :: ks' ∧ Ob K S H k a ∧ CellsR K S H as ks'
def ResR (K : PySem.W.Frag) (S : AS) (fresh : Bool) (H H' : Hp) (d : D) (v : V) : Prop :=
  if fresh = true then Fr K S H H' d v ∧ isDic d = false else Rep K S H' d v
/-- an exception as data, whatever the run -/
def ExR' (K : PySem.W.Frag) (ca : Nat → Addr) (cf : Nat → Str) (H : Hp) (x : Exc) (cls : Value) (dd : Option Addr) : Prop :=
  cls = .ref (ca x.cls) ∧ match x.fld with
  | none => dd = none
  | some d => ∃ a v, dd = some a ∧ H a = some (.xd [(cf x.cls, v)]) ∧ Rep K (fun _ => False) H d v
abbrev FnV := List D → List D → Option (Except Exc D × List D)
/-- a def that does what f says -/
def spF (K : PySem.W.Frag) (ca : Nat → Addr) (cf : Nat → Str) (pk : List PK) (fresh : Bool) (f : FnV) : Sp := fun vs H Q E => ∃ (S : AS) (ds ks : List D) (r : Except Exc D) (ks' : List D),
  (∀ a, S a → H a ≠ none) ∧ (celAs pk vs).Nodup ∧ ArgsR K (fun a => a ∈ celAs pk vs) S H pk vs ds ks ∧ f ds ks = some (r, ks') ∧
  match r with
  | .ok d => ∀ v H', Kp (fun a => a ∈ celAs pk vs) H H' → CellsR K S H' (celAs pk vs) ks' → ResR K S fresh H H' d v → Q v H'
  | .error x => ∀ cls dd H', Kp (fun a => a ∈ celAs pk vs) H H' → CellsR K S H' (celAs pk vs) ks' → ExR' K ca cf H' x cls dd → E cls dd H'
/-- the def stands there and keeps its promise -/
def FnSt (X : Cx) (ca : Nat → Addr) (cf : Nat → Str) (I : FnI) (f : FnV) : Prop :=
  ∃ (fa : Addr) (fd : FuncData) (ps : List Str) (k : Nat), (X.mg I.name = some (.ref fa) ∧ fa = He.ga X.K I.name) ∧ PySem.W.keepIn X.K (.ref fa) = true ∧ Binds X.K fd ps [] ∧
    FnOk X.prog X.w X.K X.mg X.base (L2N.CX X.prog X.w) k fa fd ps (spF X.K ca cf I.pk I.fresh f) ∧ Room k X.A
theorem spF.imp {K : PySem.W.Frag} {ca : Nat → Addr} {cf : Nat → Str} {pk : List PK} {fresh : Bool} {f g : FnV} (h : ∀ ds ks o, g ds ks = some o → f ds ks = some o) : ∀ vs H Q E, spF K ca cf pk fresh g vs H Q E → spF K ca cf pk fresh f vs H Q E :=
  fun vs H Q E ⟨S, ds, ks, r, ks', h1, h2, h3, h4, h5⟩ => ⟨S, ds, ks, r, ks', h1, h2, h3, h _ _ _ h4, h5⟩

/-- how the written arguments fit the parameters -/
def fitEs (C : Cfg) : List PK → Es → List Nat → Bool
  | [], .nil, [] => true
  | .val :: pk, .cons x r, cs => (decide (kdE C x = .fr) || decide (kdE C x = .vl)) && fitEs C pk r cs
  | .bor :: pk, .cons x r, cs => decide (kdE C x ≠ .fo) && fitEs C pk r cs
  | .cel :: pk, .cel i r, j :: cs => decide (i = j) && (decide (C.ks[i]? = some .cel) && fitEs C pk r cs)
  | _, _, _ => false
variable {C : Cfg} {G : Gam} {A : Ac} {S : AS} {σ : L2.St}
/-- the slots at cs hold the addresses as -/
def CsAt (σ : L2.St) : List Nat → List Addr → Prop
  | [], as => as = []
  | i :: is, as => ∃ a as', as = a :: as' ∧ σ[i]? = some (some (V.ref a)) ∧ CsAt σ is as'
theorem CsAt.mem : ∀ {cs : List Nat} {as : List Addr} {a : Addr}, CsAt σ cs as → a ∈ as → ∃ i ∈ cs, σ[i]? = some (some (V.ref a))
  | [], _, _, h, hm => by subst h; cases hm
  | i :: is, as, a, h, hm => by
    obtain ⟨b, as', rfl, h1, h2⟩ := h
    rcases List.mem_cons.mp hm with rfl | hm
    · exact ⟨i, List.mem_cons_self, h1⟩
    · obtain ⟨j, hj, h3⟩ := CsAt.mem h2 hm
      exact ⟨j, List.mem_cons_of_mem _ hj, h3⟩
theorem getCs_cons {e : Envd} {i : Nat} {is : List Nat} {ks : List D} (h : getCs e (i :: is) = some ks) : ∃ k ks', ks = k :: ks' ∧ getV e i = some k ∧ getCs e is = some ks' := by
  unfold getCs at h
  cases h1 : getV e i with
  | none => rw [h1] at h; cases h
  | some k =>
    cases h2 : getCs e is with
    | none => rw [h1, h2] at h; cases h
    | some ks' => rw [h1, h2] at h; cases h; exact ⟨k, ks', rfl, rfl, rfl⟩
theorem fit_args {H1 : Hp} {e1 : Envd} (R1 : SR A S e1 σ H1) (hks : A.ks = C.ks) {W : AS} (hW : ∀ a, W a → CelAt A σ a) : ∀ {pk : List PK} {es : Es} {cs : List Nat} {H : Hp} {ds ks : List D} {vs : List V},
    fitEs C pk es cs = true → (∀ a, S a → H a ≠ none) → VRs C A S σ es H H1 ds vs → getCs e1 cs = some ks → (∀ a ∈ celAs pk vs, W a) →
    ArgsR A.K W S H1 pk vs ds ks ∧ CsAt σ cs (celAs pk vs) ∧ (∀ i ∈ cs, A.ks[i]? = some .cel)
  | [], .nil, [], _, _, _, _, _, _, h, hg, _ => by
    obtain ⟨rfl, rfl⟩ := h
    cases hg
    exact ⟨⟨rfl, rfl, rfl⟩, rfl, fun _ z => nomatch z⟩
  | .val :: pk, .cons x r, cs, H, ds, ks, vs, hf, hs, h, hg, hw => by
    obtain ⟨d, ds', v, vs', H2, rfl, rfl, h1, h2, h3, h4⟩ := h
    rw [fitEs, Bool.and_eq_true, Bool.or_eq_true] at hf
    have hw' : ∀ a ∈ celAs pk vs', W a := fun a z => hw a (by cases v <;> exact z)
    obtain ⟨a1, a2, a3⟩ := fit_args R1 hks hW hf.2 (fun a z => h1 a (hs a z)) h4 hg hw'
    exact ⟨⟨v, vs', d, ds', rfl, rfl, h3.rep hs (hf.1.imp of_decide_eq_true of_decide_eq_true), a1⟩, (by cases v <;> exact a2), a3⟩
  | .bor :: pk, .cons x r, cs, H, ds, ks, vs, hf, hs, h, hg, hw => by
    obtain ⟨d, ds', v, vs', H2, rfl, rfl, h1, h2, h3, h4⟩ := h
    rw [fitEs, Bool.and_eq_true] at hf
    have hw' : ∀ a ∈ celAs pk vs', W a := fun a z => hw a (by cases v <;> exact z)
    obtain ⟨a1, a2, a3⟩ := fit_args R1 hks hW hf.2 (fun a z => h1 a (hs a z)) h4 hg hw'
    refine ⟨⟨v, vs', d, ds', rfl, rfl, ?_, a1⟩, (by cases v <;> exact a2), a3⟩
    exact (h3.vw fun a z => hs a (R1.celS a z)).less hW
  | .cel :: pk, .cel i r, j :: cs, H, ds, ks, vs, hf, hs, h, hg, hw => by
    obtain ⟨a, vs', rfl, h1, h2⟩ := h
    rw [fitEs, Bool.and_eq_true, Bool.and_eq_true] at hf
    obtain ⟨hij, hc, hf⟩ := hf
    have hij := of_decide_eq_true hij
    subst hij
    have hc := of_decide_eq_true hc
    obtain ⟨k, ks', rfl, g1, g2⟩ := getCs_cons hg
    obtain ⟨a1, a2, a3⟩ := fit_args R1 hks hW hf hs h2 g2 fun b z => hw b (List.mem_cons_of_mem _ z)
    obtain ⟨v, hv, hsl⟩ := R1.getV g1
    rw [h1] at hv
    cases hv
    rw [hks, hc] at hsl
    obtain ⟨b, e1, s1, s2, s3⟩ := hsl
    cases e1
    refine ⟨⟨a, vs', k, ks', rfl, rfl, s1, s3, a1⟩, ⟨a, _, rfl, h1, a2⟩, fun m hm => ?_⟩
    rcases List.mem_cons.mp hm with rfl | hm
    · rw [hks]; exact hc
    · exact a3 m hm
theorem cs_nodup {e : Envd} {H : Hp} (R : SR A S e σ H) : ∀ {cs : List Nat} {as : List Addr}, cs.Nodup → (∀ i ∈ cs, A.ks[i]? = some .cel) → CsAt σ cs as → as.Nodup
  | [], _, _, _, h => by subst h; exact List.nodup_nil
  | i :: is, as, hn, hk, h => by
    obtain ⟨a, as', rfl, h1, h2⟩ := h
    obtain ⟨hi, hn'⟩ := List.nodup_cons.mp hn
    refine List.nodup_cons.mpr ⟨fun hm => ?_, cs_nodup R hn' (fun j hj => hk j (List.mem_cons_of_mem _ hj)) h2⟩
    obtain ⟨j, hj, h3⟩ := h2.mem hm
    exact R.dist i j a (fun z => hi (z ▸ hj)) (.inr (hk i List.mem_cons_self)) (.inr (hk j (List.mem_cons_of_mem _ hj))) h1 h3
theorem setCs_len : ∀ (cs : List Nat) (ks : List D) (e : Envd), (setCs cs ks e).length = e.length
  | [], _, e => by cases ‹List D› <;> rfl
  | i :: is, [], e => rfl
  | i :: is, k :: ks, e => by
    show (setCs is ks (e.set i (some k))).length = e.length
    rw [setCs_len, List.length_set]
theorem setCs_out {i : Nat} : ∀ (cs : List Nat) (ks : List D) (e : Envd), i ∉ cs → (setCs cs ks e)[i]? = e[i]?
  | [], ks, e, _ => by cases ks <;> rfl
  | j :: is, [], e, _ => rfl
  | j :: is, k :: ks, e, h => by
    show (setCs is ks (e.set j (some k)))[i]? = e[i]?
    rw [setCs_out is ks _ fun z => h (List.mem_cons_of_mem _ z), List.getElem?_set_ne]
    exact fun z => h (z ▸ List.mem_cons_self)
theorem setCs_in {H' : Hp} {K : PySem.W.Frag} {S' : AS} {i : Nat} : ∀ {cs : List Nat} {as : List Addr} {ks : List D} {e : Envd}, CsAt σ cs as → CellsR K S' H' as ks → i ∈ cs → i < e.length → cs.Nodup →
    ∃ k a, (setCs cs ks e)[i]? = some (some k) ∧ σ[i]? = some (some (V.ref a)) ∧ Ob K S' H' k a
  | [], _, _, _, _, _, h, _, _ => nomatch h
  | j :: is, as, ks, e, hc, hr, hi, hl, hn => by
    obtain ⟨a, as', rfl, h1, h2⟩ := hc
    obtain ⟨k, ks', rfl, h3, h4⟩ := hr
    obtain ⟨hj, hn'⟩ := List.nodup_cons.mp hn
    show ∃ k' a', (setCs is ks' (e.set j (some k)))[i]? = some (some k') ∧ _
    by_cases e1 : i = j
    · subst e1
      refine ⟨k, a, ?_, h1, h3⟩
      rw [setCs_out is ks' _ hj, List.getElem?_set_self hl]
    · rcases List.mem_cons.mp hi with e2 | hi
      · exact absurd e2 e1
      · exact setCs_in h2 h4 hi (by rw [List.length_set]; exact hl) hn'
/-- behind a call: the slots handed in hold what they hold now, all else is as it was -/
theorem SR.cells {e : Envd} {H H' : Hp} {cs : List Nat} {as : List Addr} {ks : List D} (R : SR A S e σ H) (hn : cs.Nodup) (hk : ∀ i ∈ cs, A.ks[i]? = some .cel) (hc : CsAt σ cs as) (q : Kp (fun a => a ∈ as) H H') (hr : CellsR A.K S H' as ks) :
    SR A S (setCs cs ks e) σ H' ∧ Kp (CelAt A σ) H H' := by
  have wc : ∀ a, a ∈ as → CelAt A σ a := fun a h => by
    obtain ⟨i, hi, h1⟩ := hc.mem h
    exact ⟨i, hk i hi, h1⟩
  have wS : ∀ a, a ∈ as → S a := fun a h => R.celS a (wc a h)
  have q' : Kp (CelAt A σ) H H' := q.mono wc
  have nw : ∀ (i : Nat) (a : Addr), Ownish A i → i ∉ cs → σ[i]? = some (some (V.ref a)) → a ∉ as := fun i a ho hi hs ha => by
    obtain ⟨j, hj, h1⟩ := hc.mem ha
    exact R.dist i j a (fun z => hi (z ▸ hj)) ho (.inr (hk j hj)) hs h1
  refine ⟨⟨by rw [setCs_len]; exact R.len, R.s0, R.s0h, fun a h => q.dom a (R.dom a h), R.new, R.wp, ?_, fun i h => ?_, fun i d h => ?_, R.dist, fun a h => ⟨q.dom a (R.bo a h).1, (R.bo a h).2⟩, R.pc⟩, q'⟩
  · refine ⟨fun a o h n t => q.keep a o (R.fr.keep a o h n t) (fun hm => ?_) t, fun a xs h => q.tup a xs (R.fr.tup a xs h), fun a h => q.dom a (R.fr.dom a h), fun a o u h => q.frz a o u (R.fr.frz a o u h), fun a h => q.tbl a (R.fr.tbl a h)⟩
    rcases (R.cel (wc a hm)).2 with z | z
    · exact n z
    · rw [z] at h; cases h
  · by_cases hi : i ∈ cs
    · have hl : i < e.length := by
        have := (List.getElem?_eq_some_iff.mp h).1
        rw [setCs_len] at this
        exact this
      obtain ⟨k, a, h1, _⟩ := setCs_in (e := e) hc hr hi hl hn
      rw [h1] at h
      cases h
    · rw [setCs_out cs ks e hi] at h
      exact R.non i h
  · by_cases hi : i ∈ cs
    · have hl : i < e.length := by
        have := (List.getElem?_eq_some_iff.mp h).1
        rw [setCs_len] at this
        exact this
      obtain ⟨k, a, h1, h2, h3⟩ := setCs_in (e := e) hc hr hi hl hn
      rw [h1] at h
      cases h
      refine ⟨_, h2, ?_⟩
      obtain ⟨s1, s2⟩ := R.cel ⟨i, hk i hi, h2⟩
      rw [hk i hi]
      exact ⟨a, rfl, s1, s2, h3⟩
    · rw [setCs_out cs ks e hi] at h
      obtain ⟨v, h1, h2⟩ := R.slot i d h
      refine ⟨v, h1, ?_⟩
      exact h2.kp q wS (fun b hb z => (R.bo b hb).2 (wc b z).own) fun a hv ho => nw i a ho hi (by rw [h1, hv])
section
variable {X : Cx} {es : Es} {as : List Expr} {pos : Pos}
theorem call_go {j : Nat} {cs : List Nat} {I : FnI} {H : Hp} {Q : VK} {e : Envd} {r : Except Exc D} {e' : Envd} (hks : A.ks = C.ks) (hI : C.fns[j]? = some I) (hf : fitEs C I.pk es cs = true) (hcs : cs.Nodup)
    (R : SR A S e σ H) (h : denE G (.call j es cs) e = some (r, e')) (P : PostV A S σ (kdE C (.call j es cs)) H Q r e') :
    tA C G A es σ H fun vs H1 => spF A.K A.ca A.cf I.pk I.fresh (G.fn j) (vs ++ []) H1 Q A.XW := by
  refine tA_then R (by simpa only [denE] using h) P.err fun ds e1 vs H1 h1 k1 R1 v1 => ?_
  rw [List.append_nil]
  cases g1 : getCs e1 cs with
  | none => rw [g1] at h1; cases h1
  | some ks =>
  rw [g1] at h1
  simp only at h1
  cases g2 : G.fn j ds ks with
  | none => rw [g2] at h1; cases h1
  | some o =>
  obtain ⟨r2, ks'⟩ := o
  rw [g2] at h1
  cases h1
  have P1 := P.shift k1
  -- two rounds: first the places, then what they hold
  have pre := fit_args (W := fun a => CelAt A σ a) R1 hks (fun _ z => z) hf R.dom v1 g1
  have hmem : ∀ a ∈ celAs I.pk vs, CelAt A σ a := by
    have aux : ∀ {pk : List PK} {es : Es} {cs : List Nat} {H : Hp} {ds : List D} {vs : List V}, fitEs C pk es cs = true → VRs C A S σ es H H1 ds vs → ∀ a ∈ celAs pk vs, CelAt A σ a := by
      intro pk
      induction pk with
      | nil => intro es cs H ds vs _ _ a ha; cases vs <;> cases ha
      | cons p pk ih =>
        intro es cs H ds vs hf hv a ha
        cases es with
        | nil => cases p <;> cases cs <;> cases hf
        | cons x r =>
          obtain ⟨d, ds', v, vs', H2, rfl, rfl, _, _, _, h4⟩ := hv
          cases p with
          | val =>
            rw [fitEs, Bool.and_eq_true] at hf
            exact ih hf.2 h4 a (by cases v <;> exact ha)
          | bor =>
            rw [fitEs, Bool.and_eq_true] at hf
            exact ih hf.2 h4 a (by cases v <;> exact ha)
          | cel => cases cs <;> cases hf
        | cel i r =>
          obtain ⟨b, vs', rfl, h1, h2⟩ := hv
          cases p with
          | val => cases cs <;> cases hf
          | bor => cases cs <;> cases hf
          | cel =>
            cases cs with
            | nil => cases hf
            | cons j cs =>
              rw [fitEs, Bool.and_eq_true, Bool.and_eq_true] at hf
              rcases List.mem_cons.mp ha with rfl | ha
              · exact ⟨i, by rw [hks]; exact of_decide_eq_true hf.2.1, h1⟩
              · exact ih hf.2.2 h2 a ha
    exact aux hf v1
  obtain ⟨_, c2, c3⟩ := pre hmem
  obtain ⟨a1, _, _⟩ := fit_args (W := fun a => a ∈ celAs I.pk vs) R1 hks hmem hf R.dom v1 g1 fun _ z => z
  refine ⟨S, ds, ks, r, ks', R1.dom, cs_nodup R1 hcs c3 c2, a1, g2, ?_⟩
  have kd : kdE C (.call j es cs) = if I.fresh = true then .fr else .vl := by rw [kdE, hI]
  cases r with
  | ok d =>
    intro v H' q hr hres
    obtain ⟨R2, q2⟩ := R1.cells hcs c3 c2 q hr
    refine P1 v H' q2 R2 ?_
    rw [kd]
    unfold ResR at hres
    split at hres
    · rename_i hfr
      rw [if_pos hfr]
      exact hres
    · rename_i hfr
      rw [if_neg hfr]
      exact hres
  | error x =>
    intro cls dd H' q hr hx
    obtain ⟨R2, q2⟩ := R1.cells hcs c3 c2 q hr
    exact P1 cls dd H' q2 R2 hx
theorem passes_A (tk : L2N.Takes X (fun cls d _ H => A.XW cls d H)) : Passes (L2N.CX X.prog X.w) X A.XW := L2N.passes_call tk fun _ _ _ _ h => h
theorem sE_call {a : Expr} {n : Str} {p : Pos} {j : Nat} {cs : List Nat} {I : FnI} (hK : X.K = A.K) (hks : A.ks = C.ks) (tk : L2N.Takes X (fun cls d _ H => A.XW cls d H)) (hI : C.fns[j]? = some I) (hn : n = I.name) (hst : FnSt X A.ca A.cf I (G.fn j)) (hg : Gl X n)
    (hd : (n == ("__debug__" : Str)) = false) (hf : fitEs C I.pk es cs = true) (hcs : cs.Nodup) (hs : notStar a = true) (hss : as.all notStar = true) (ha : PA X (a :: as) (tA C G A es)) :
    PE X (.Call (.Name n p) (a :: as) [] pos) (tE (C := C) G A (.call j es cs)) := by
  subst hn
  obtain ⟨fa, fd, ps, k, ⟨hm, _⟩, hkp, hb, F, hr⟩ := hst
  rw [hK] at F
  have F' : FnOk X.prog X.w X.K X.mg X.base (L2N.CX X.prog X.w) k fa fd ps (spF A.K A.ca A.cf I.pk I.fresh (G.fn j)) := by rw [hK]; exact F
  refine (pe_call F' hr hg hm hkp hb .nil (passes_A tk) ha hd (star_cons hs) (star_any hss)).weak fun σ H Q ⟨S, e, r, e', R, h, P⟩ => ?_
  exact call_go hks hI hf hcs R h P
theorem sE_call0 {n : Str} {p : Pos} {j : Nat} {I : FnI} (hK : X.K = A.K) (hks : A.ks = C.ks) (tk : L2N.Takes X (fun cls d _ H => A.XW cls d H)) (hI : C.fns[j]? = some I) (hn : n = I.name) (hst : FnSt X A.ca A.cf I (G.fn j)) (hg : Gl X n)
    (hd : (n == ("__debug__" : Str)) = false) (hf : fitEs C I.pk .nil [] = true) : PE X (.Call (.Name n p) [] [] pos) (tE (C := C) G A (.call j .nil [])) := by
  subst hn
  obtain ⟨fa, fd, ps, k, ⟨hm, _⟩, hkp, hb, F, hr⟩ := hst
  have F' : FnOk X.prog X.w X.K X.mg X.base (L2N.CX X.prog X.w) k fa fd ps (spF A.K A.ca A.cf I.pk I.fresh (G.fn j)) := by rw [← hK]; exact F
  refine (pe_call0 F' hr hg hm hkp hb .nil (passes_A tk) hd).weak fun σ H Q ⟨S, e, r, e', R, h, P⟩ => ?_
  obtain ⟨S2, e2, r2, e2', R2, h2, P2⟩ := call_go hks hI hf List.nodup_nil R h P
  have h2' : some (Except.ok ([] : List D), e2) = some (r2, e2') := by simpa [denEs] using h2
  cases h2'
  exact P2 [] H (Kp.refl _ _) R2 ⟨rfl, rfl⟩
end
end Rf

set_option maxRecDepth 100000
set_option maxHeartbeats 1000000
/-! Rf11: enumerate of a tuple. -/
namespace Rf
open PySem PySem.Spec PyProof.Rows L2
variable [TN]
open PySem.AutoSeq1 (wpAny_loadPart')

theorem enum_newT (l : Addr) (items : Array Value) (n : Nat) (dct : Option Addr) (sl : Array (Option Value)) :
    Meets (Builtin.«enumerate.__new__» ⟨[.type "enumerate", .ref l], []⟩) (fun _ R s => s.heap.get? l = some { cls := .type "tuple", dict := dct, data := .seq items n, slots := sl } ∧
      R (.ok (.ret (.ref (s.heap.push { cls := .type "tuple_iterator", data := .fields #[.ref l, .int 0 0] }).objs.size)))
        { s with heap := (s.heap.push { cls := .type "tuple_iterator", data := .fields #[.ref l, .int 0 0] }).push { cls := .type "enumerate", data := .fields #[.none, .bool false, .ref s.heap.objs.size, rawInt 0, .none, .none] } }) :=
  .of_wp fun prog w A R s h => by
    obtain ⟨hp, g, d, tk, os⟩ := s
    obtain ⟨hl, h⟩ := h
    have hsub := sub_enumerate
    have hT : Heap.IsTuple (Shared.heap ⟨hp, g, d, tk, os⟩) l items := ⟨_, hl, rfl, n, rfl⟩
    wp_walk using wpAny_loadPart' hl
    refine wpAny_stack_any fun st => wpAny_pure ?_
    split
    · rename_i c _ _ _ _ _
      cases (c == Value.type "enumerate") <;> (wp_walk using wpAny_loadPart' hl, wpAny_pyIter_tuple hT; exact ⟨_, rfl, h⟩)
    · wp_walk using wpAny_loadPart' hl, wpAny_pyIter_tuple hT
      exact ⟨_, rfl, h⟩
theorem enum_callT {prog : Program} {w : World} {A : Around} {E : Value → Shared → Prop} {s : Shared} {l : Addr} {items : Array Value} {Q : Value → Shared → Prop} (hT : s.heap.IsTuple l items)
    (h : ∀ h', IsEnum h' (s.heap.objs.size + 1) s.heap.objs.size 0 .none → h'.IsTupleIter s.heap.objs.size l 0 → (∀ b o, s.heap.get? b = some o → h'.get? b = some o) → Q (.ref (s.heap.objs.size + 1)) { s with heap := h' }) :
    wpAny (model prog w) A (call (.type "enumerate") [.ref l]) Q E s := by
  obtain ⟨⟨c, dct, dt, sl⟩, hl, hc, n, hd⟩ := hT
  simp only at hc hd
  subst hc hd
  refine callType_new PySem.F.called_enumerate (by decide) (PySem.F.typeCall_enumerate_1 _) (PySem.F.newCall_enumerate_1 _) (fun obj => PySem.F.args_object_init_2 obj _) PySem.F.entry_enumerate_new (enum_newT l items n dct sl) ⟨hl, ?_⟩
  have z : ∀ o1 : Obj, (s.heap.push o1).objs.size = s.heap.objs.size + 1 := fun o1 => Heap.size_push ..
  show _ ∧ _
  rw [z]
  have he : ∀ o1 o2 : Obj, o2.isFreed = false → ((s.heap.push o1).push o2).get? (s.heap.objs.size + 1) = some o2 := fun o1 o2 hf => by
    rw [← z o1]
    exact Heap.get?_push_size _ hf
  exact ⟨⟨_, he _ _ rfl, rfl⟩, h _ (he _ _ rfl) ⟨_, Heap.get?_push_of_some _ (Heap.get?_push_size _ rfl), rfl, rfl⟩ fun b o x => Heap.get?_push_of_some _ (Heap.get?_push_of_some _ x)⟩

/-- the tuple at a, each item in a new pair -/
def IteT (K : PySem.W.Frag) (a : Addr) : L2.It :=
  ⟨fun i H => ∃ (xs : List V) (x : V), SqT K H a xs ∧ xs[i]? = some x, fun i H v H' => ∃ T x, v = .ref T ∧ H T = none ∧ H' = upd H T (.tup [.int (i : Nat), x]) ∧ ∀ xs, SqT K H a xs → xs[i]? = some x, fun i H => ∃ xs : List V, SqT K H a xs ∧ xs.length ≤ i⟩
theorem turn_enumT {P : Program} {w : World} {K : PySem.W.Frag} {elts : List Expr} {kk : Nat} {tpos : Pos} (a e it : Addr) :
    Turn P w K (.Tuple elts kk tpos) (IteT K a) [e, it] e (fun i h => (∃ old, IsEnum h e it ((i : Nat) : Int) old) ∧ h.IsTupleIter it a i ∧ e ≠ it ∧ a ≠ it) where
  mem := List.mem_cons_self
  obj := fun i h st b hb => by
    obtain ⟨⟨old, he⟩, ⟨o, ho, _, hd⟩, _⟩ := st
    rcases List.mem_cons.mp hb with rfl | hb
    · exact ⟨_, he, fun v q => nomatch q⟩
    · obtain rfl := List.mem_singleton.mp hb
      exact ⟨o, ho, fun v q => by rw [hd] at q; cases q⟩
  keep := fun i h h' st k => by
    obtain ⟨⟨old, he⟩, ⟨o, ho, r⟩, hne⟩ := st
    exact ⟨⟨old, k e List.mem_cons_self _ he⟩, ⟨o, k it (List.mem_cons_of_mem _ List.mem_cons_self) _ ho, r⟩, hne⟩
  item := by
    intro X hP hw hK hc i pins s σ H E I hf st hg
    subst hP hw hK
    obtain ⟨⟨old, he⟩, hit, hne, hai⟩ := st
    obtain ⟨xs, x, hq, hx⟩ := hg
    obtain ⟨its, rv, p, _⟩ := I.tuple hq
    obtain ⟨u, hu, ru⟩ := rv.get hx
    have hel : e < s.heap.objs.size := Heap.lt_size he
    have hil : it < s.heap.objs.size := let ⟨_, q, _⟩ := hit; Heap.lt_size q
    have hal : a < s.heap.objs.size := let ⟨_, q, _⟩ := p; Heap.lt_size q
    have hlt : i < its.toArray.size := by
      obtain ⟨z, _⟩ := List.getElem?_eq_some_iff.mp hu
      simpa using z
    have hae : a ≠ e := fun z => by
      obtain ⟨o, ho, hcls, _⟩ := p
      rw [z, he] at ho
      cases ho
      exact (by decide : Value.type "enumerate" ≠ Value.type "tuple") hcls
    refine wpAny_pyNext_enum_itemD (Draws.tuple (A := X.A.in1) (I.ok.hd hc) it a hai its.toArray) he ⟨hit, p⟩ hlt hne (by simp [hne, Ne.symm hae]) fun y h' tk hy ho st' hT hsz hk => ?_
    have ey : y = u := by
      rw [List.getElem?_toArray, hu] at hy
      exact (Option.some.inj hy).symm
    subst ey
    refine ⟨_, rfl, wpAny_letOwnedTupleGo_enum (s := { s with heap := h', toks := tk + 1 }) ho fun h'' he' sb => ?_⟩
    have hT2 := (sb.2 _ (Nat.ne_of_gt hel)).trans hT
    have new : ObjOk X.prog X.w (upd H s.heap.objs.size (.tup [.int (i : Nat), x])) h'' s.heap.objs.size (.tup [.int (i : Nat), x]) :=
      ⟨by rw [lim_eq]; show 2 ≤ 16777216; decide, [.int i tk, y], .cons ⟨_, rfl⟩ (.cons ru .nil), ⟨_, hT2, rfl, _, rfl⟩⟩
    have I1 := I.turnedNew (t' := tk + 1) (ch := [e, it]) (fun b ob hb q => (sb.2 b (fun z => hb (by simp [z]))).trans (hk b ob (fun z => hb (by simp [z])) (fun z => hb (by simp [z])) q)) hf (Nat.le_refl _) new
    refine ⟨.ref s.heap.objs.size, _, I1, rfl, ⟨_, x, rfl, I.hok.fresh (Nat.le_refl _), rfl, fun ys hy => by rw [I.tuple_inj hy hq]; exact hx⟩, ⟨⟨y, ?_⟩, ?_, hne, hai⟩, fun b hb => ?_⟩
    · have e1 : ((i + 1 : Nat) : Int) = (i : Int) + 1 := by omega
      rw [e1]
      exact he'
    · obtain ⟨⟨o, ho', r⟩, _⟩ := st'
      exact ⟨o, (sb.2 it (Ne.symm hne)).trans ho', r⟩
    · have hb' : b < s.heap.objs.size := by
        rcases List.mem_cons.mp hb with rfl | hb
        · exact hel
        · rw [List.mem_singleton.mp hb]
          exact hil
      rw [upd_ne (Nat.ne_of_lt hb')]
      exact (hf b hb).1
  done := by
    intro X hP hw hK hc i pins s σ H E I hf st hg
    subst hP hw hK
    obtain ⟨⟨old, he⟩, hit, hne, hai⟩ := st
    obtain ⟨xs, hq, hx⟩ := hg
    obtain ⟨its, rv, p, _⟩ := I.tuple hq
    obtain ⟨f0, f1, f2, f3, f4, f5⟩ := hf it (List.mem_cons_of_mem _ List.mem_cons_self)
    have hT : s.TypeIs (.ref e) "enumerate" := ⟨_, he, rfl⟩
    have hl := rv.length
    have hend : its.toArray[i]? = none := by simp; omega
    unfold pyNext
    refine wpAny_bind (wpAny_attempt (wpAny_callSpecial?_slot (name := Str.ofString "__next__") hT PySem.F.slot_enumerate_next (wpAny_call_entry PySem.F.slot_enumerate_next hT PySem.F.entry_enumerate_next ?_ (PySem.F.args_enumerate_next_1 _))))
    show wpAny _ _ (field (.ref e) 2 >>= _) _ _ _
    refine wpAny_bind (wpAny_field he rfl (x := .ref it) rfl (wpAny_bind (wpAny_nextOf_tuple_end (I.ok.hd hc) hit p hend fun h' y he' hx' => ?_)))
    obtain ⟨o, ho, hc'⟩ := hx'
    exact wpAny_bind (wpAny_isInstance (T := "StopIteration") (b := true) ⟨o, ho, hc'⟩ isSubtype_stop (wpAny_pure ⟨rfl, I.turned (t' := s.toks) (fun b o hb q => he' b o hb q) f0 f1 f3 f4 f5⟩))
  self := fun A i s Q E st h => let ⟨⟨_, he⟩, _⟩ := st; wpAny_pyIter_enum he h
/-- enumerate(list or tuple) -/
def iEnumA (K : PySem.W.Frag) (ta : TA) : TI := fun σ H R => ta σ H fun vs H1 => ∃ a xs, vs = [.ref a] ∧ ((SqL K H1 a xs ∧ R (Ite K a) H1) ∨ (SqT K H1 a xs ∧ R (IteT K a) H1))
theorem pi_enumA {X : Cx} {e : Expr} {ta : TA} {p pos tpos : Pos} {elts : List Expr} {kk : Nat} (hg : Gl X "enumerate") (hm : X.mg "enumerate" = none) (ha : PA X [e] ta) (hs : starEach [e] X.env = [(false, eval e X.env)]) :
    PI X (.Tuple elts kk tpos) (.Call (.Name "enumerate" p) [e] [] pos) (iEnumA X.K ta) := by
  refine ⟨fun pins s σ H R I h => ?_⟩
  refine Call_ (ld_blt I hg hm boot_enumerate (PyProof.Rows.callWith_type1 (thn (ha.run pos pins s σ H _ I h) fun us s1 ⟨vs, H1, I1, r1, q1⟩ => ?_) hs rfl))
  obtain ⟨a, xs, ex, q1⟩ := q1
  subst ex
  obtain rfl := Vals.ref1 r1
  have fp : ∀ b ∈ [s1.heap.objs.size + 1, s1.heap.objs.size], FpOk X pins H1 b := fun b hb => by
    have hle : s1.heap.objs.size ≤ b := by
      rcases List.mem_cons.mp hb with rfl | hb
      · exact Nat.le_succ _
      · rw [List.mem_singleton.mp hb]
        exact Nat.le_refl _
    exact I1.fpOk hle (I1.hok.fresh hle)
  rcases q1 with ⟨hq, q⟩ | ⟨hq, q⟩
  · obtain ⟨its, rv, p', hz⟩ := I1.list hq
    refine call_enumerate_list p'.isList fun h' he hit hsz hk => wpAny_pyIter_enum he ?_
    exact ⟨_, [s1.heap.objs.size + 1, s1.heap.objs.size], _, _, H1, rfl, I1.kept (t' := s1.toks) hk, turn_enum a (s1.heap.objs.size + 1) s1.heap.objs.size, ⟨⟨.none, he⟩, hit, Nat.succ_ne_self _⟩, fp, q⟩
  · obtain ⟨its, rv, p', hz⟩ := I1.tuple hq
    refine enum_callT p' fun h' he hit hk => wpAny_pyIter_enum he ?_
    have hal : a < s1.heap.objs.size := let ⟨_, q, _⟩ := p'; Heap.lt_size q
    exact ⟨_, [s1.heap.objs.size + 1, s1.heap.objs.size], _, _, H1, rfl, I1.kept (t' := s1.toks) hk, turn_enumT a (s1.heap.objs.size + 1) s1.heap.objs.size, ⟨⟨.none, he⟩, hit, Nat.succ_ne_self _, Nat.ne_of_lt hal⟩, fp, q⟩
/-- a list, a tuple or a text -/
def iSeq (K : PySem.W.Frag) (te : TE) : TI := fun σ H R => te σ H fun v H1 => (∃ a xs, v = .ref a ∧ SqL K H1 a xs ∧ R (Itl K a) H1) ∨ (∃ a xs, v = .ref a ∧ SqT K H1 a xs ∧ R (Itt K a) H1) ∨ ∃ x, v = .str x ∧ R (Its x) H1
theorem pi_seq {X : Cx} {tg l : Expr} {tl : TE} (hl : PE X l tl) : PI X tg l (iSeq X.K tl) := by
  refine ⟨fun pins s σ H R I h => ?_⟩
  refine thn (hl.run pins s σ H _ I h) fun v s1 ⟨x, H1, I1, r1, q1⟩ => ?_
  rcases q1 with ⟨a, xs, rfl, hq, q⟩ | ⟨a, xs, rfl, hq, q⟩ | ⟨y, rfl, q⟩
  · cases r1
    obtain ⟨its, rv, p, hz⟩ := I1.list hq
    exact wpAny_pyIter_list p.isList (pi_one (tk := s1.toks) I1 _ (turn_list a _) ⟨_, Heap.get?_push_size _ rfl, rfl, rfl⟩ q)
  · cases r1
    obtain ⟨its, rv, p, hz⟩ := I1.tuple hq
    exact wpAny_pyIter_tuple (show s1.heap.IsTuple a its.toArray from p) (pi_one (tk := s1.toks) I1 _ (turn_tuple a _) ⟨_, Heap.get?_push_size _ rfl, rfl, rfl⟩ q)
  · obtain ⟨t, rfl⟩ := r1
    cases ha : y.cps.all (· < 128)
    · exact wpAny_pyIter_wide ha (pi_one (tk := s1.toks) I1 _ (turn_str _ y t "str_iterator" (.inr rfl)) ⟨_, Heap.get?_push_size _ rfl, rfl, rfl⟩ q)
    · exact wpAny_pyIter_ascii ha (pi_one (tk := s1.toks) I1 _ (turn_str _ y t "str_ascii_iterator" (.inl rfl)) ⟨_, Heap.get?_push_size _ rfl, rfl, rfl⟩ q)
end Rf

set_option maxRecDepth 100000
set_option maxHeartbeats 1000000
/-! Rf12: targets; what a loop walks. -/
namespace Rf
open PySem PySem.Spec PyProof.Rows L2
variable [TN]
variable {X : Cx} {C : Cfg} {G : Gam} {A : Ac} {S : AS} {σ : L2.St} {pos : Pos}

/-! ### a slot is filled anew -/
theorem celAt_set {i : Nat} {v : V} (hk : A.ks[i]? = some .val) {a : Addr} : CelAt A (σ.set i (some v)) a ↔ CelAt A σ a := by
  constructor
  · rintro ⟨j, h1, h2⟩
    have n : i ≠ j := fun z => by subst z; rw [hk] at h1; cases h1
    exact ⟨j, h1, by rw [List.getElem?_set_ne n] at h2; exact h2⟩
  · rintro ⟨j, h1, h2⟩
    have n : i ≠ j := fun z => by subst z; rw [hk] at h1; cases h1
    exact ⟨j, h1, by rw [List.getElem?_set_ne n]; exact h2⟩
theorem not_ownish {i : Nat} (hk : A.ks[i]? = some .val) : ¬ Ownish A i := by
  rintro (h | h) <;> (rw [hk] at h; cases h)
theorem ownAt_set {i : Nat} {v : V} (hk : A.ks[i]? = some .val) {a : Addr} : OwnAt A (σ.set i (some v)) a ↔ OwnAt A σ a := by
  constructor
  · rintro ⟨j, h1, h2⟩
    have n : i ≠ j := fun z => by subst z; exact not_ownish hk h1
    exact ⟨j, h1, by rw [List.getElem?_set_ne n] at h2; exact h2⟩
  · rintro ⟨j, h1, h2⟩
    have n : i ≠ j := fun z => by subst z; exact not_ownish hk h1
    exact ⟨j, h1, by rw [List.getElem?_set_ne n]; exact h2⟩
theorem SR.setVal {e : Envd} {H : Hp} (R : SR A S e σ H) {i : Nat} {d : D} {v : V} (hk : A.ks[i]? = some .val) (h : Rep A.K S H d v) : SR A S (e.set i (some d)) (σ.set i (some v)) H where
  len := by rw [List.length_set, List.length_set]; exact R.len
  s0 := R.s0
  s0h := R.s0h
  dom := R.dom
  new := R.new
  wp := R.wp
  fr := R.fr
  non := fun j q => by
    by_cases z : i = j
    · subst z
      by_cases hl : i < e.length
      · rw [List.getElem?_set_self hl] at q; cases q
      · rw [List.getElem?_eq_none_iff.mpr (by rw [List.length_set]; omega)] at q; cases q
    · rw [List.getElem?_set_ne z] at q ⊢
      exact R.non j q
  slot := fun j d' q => by
    by_cases z : i = j
    · subst z
      by_cases hl : i < e.length
      · rw [List.getElem?_set_self hl] at q
        cases q
        refine ⟨v, List.getElem?_set_self (by rw [← R.len]; exact hl), ?_⟩
        rw [hk]
        exact h
      · rw [List.getElem?_eq_none_iff.mpr (by rw [List.length_set]; omega)] at q; cases q
    · rw [List.getElem?_set_ne z] at q ⊢
      obtain ⟨v', h1, h2⟩ := R.slot j d' q
      exact ⟨v', h1, h2⟩
  dist := fun j k a hjk hj hk' h1 h2 => by
    have n1 : i ≠ j := fun z => by subst z; exact not_ownish hk hj
    have n2 : i ≠ k := fun z => by subst z; exact not_ownish hk hk'
    rw [List.getElem?_set_ne n1] at h1
    rw [List.getElem?_set_ne n2] at h2
    exact R.dist j k a hjk hj hk' h1 h2
  bo := fun a h => ⟨(R.bo a h).1, fun z => (R.bo a h).2 ((ownAt_set hk).mp z)⟩
  pc := fun p hp => by
    obtain ⟨h1, h2⟩ := R.pc p hp
    have n : i ≠ p.1 := fun z => by rw [← z, hk] at h1; cases h1
    exact ⟨h1, by rw [List.getElem?_set_ne n]; exact h2⟩

/-! ### targets -/
mutual
def tgS : Tg → List Nat
  | .nm i => [i]
  | .tp ts => tgSs ts
def tgSs : List Tg → List Nat
  | [] => []
  | t :: ts => tgS t ++ tgSs ts
end
def tG (G : Gam) (A : Ac) (t : Tg) : TG := fun v σ H Q => ∃ S e d e', SR A S e σ H ∧ asgT t d e = some e' ∧ Rep A.K S H d v ∧ ∀ σ', SR A S e' σ' H → (∀ i, i ∉ tgS t → σ'[i]? = σ[i]?) → Q σ' H
def tGs (G : Gam) (A : Ac) (ts : List Tg) : TGs := fun vs σ H Q => ∃ S e ds e', SR A S e σ H ∧ asgTs ts ds e = some e' ∧ RepL A.K S H ds vs ∧ ∀ σ', SR A S e' σ' H → (∀ i, i ∉ tgSs ts → σ'[i]? = σ[i]?) → Q σ' H
theorem PGweak {X : Cx} {e : Expr} {t t' : TG} (h : PG X e t) (m : ∀ v σ H Q, t' v σ H Q → t v σ H Q) : PG X e t' := ⟨fun pins s σ H v u Q I r q => h.run pins s σ H v u Q I r (m v σ H Q q)⟩
theorem PGsweak {X : Cx} {e : List Expr} {t t' : TGs} (h : PGs X e t) (m : ∀ v σ H Q, t' v σ H Q → t v σ H Q) : PGs X e t' := ⟨fun pins s σ H v u Q I r q => h.run pins s σ H v u Q I r (m v σ H Q q)⟩
theorem sG_nm {i : Nat} {n : Str} (hk : A.ks[i]? = some .val) (hN : X.N.Nodup) (hi : X.N[i]? = some n) (hx : Loc X.env.scope n) (hf : X.fn n = true ∨ X.env.scope.names.lookup n = some .local) : PG X (.Name n pos) (tG G A (.nm i)) :=
  PGweak (pg_name hN hi hx hf) fun v σ H Q ⟨S, e, d, e', R, h, r, q⟩ => by
    cases h
    exact q _ (R.setVal hk r) fun j hj => List.getElem?_set_ne fun z => hj (by rw [z]; exact List.mem_cons_self)
theorem sGs_nil : PGs X [] (tGs G A []) := PGsweak pgs_nil fun vs σ H Q ⟨S, e, ds, e', R, h, r, q⟩ => by
  cases ds with
  | nil => cases h; cases r; exact ⟨rfl, q _ R fun _ _ => rfl⟩
  | cons d ds => cases h
theorem assignEach_cons {e : Expr} {es : List Expr} {env : Env} (h : notStar e = true) : assignEach (e :: es) env = (false, assign e env) :: assignEach es env := by
  cases e <;> first | rfl | cases h
theorem sGs_cons {a : Expr} {as : List Expr} {t : Tg} {ts : List Tg} (hs : notStar a = true) (h1 : PG X a (tG G A t)) (h2 : PGs X as (tGs G A ts)) : PGs X (a :: as) (tGs G A (t :: ts)) :=
  PGsweak (pgs_cons h1 h2 (by rw [assignEach_cons hs]; rfl)) fun vs σ H Q ⟨S, e, ds, e', R, h, r, q⟩ => by
    cases ds with
    | nil => cases h
    | cons d ds =>
      cases r with
      | @cons _ _ v vs r rr =>
        unfold asgTs at h
        cases h1 : asgT t d e with
        | none => rw [h1] at h; cases h
        | some e1 =>
          rw [h1] at h
          refine ⟨v, vs, rfl, S, e, d, e1, R, h1, r, fun σ1 R1 o1 => ⟨S, e1, ds, e', R1, h, rr, fun σ2 R2 o2 => q σ2 R2 fun i hi => ?_⟩⟩
          rw [o2 i fun z => hi (List.mem_append_right _ z), o1 i fun z => hi (List.mem_append_left _ z)]
theorem assignEach_len {env : Env} : ∀ {es : List Expr}, es.all notStar = true → (assignEach es env).length = es.length ∧ (assignEach es env).findIdx? (·.1) = none
  | [], _ => ⟨rfl, rfl⟩
  | e :: es, h => by
    rw [List.all_cons, Bool.and_eq_true] at h
    obtain ⟨h1, h2⟩ := assignEach_len (env := env) h.2
    rw [assignEach_cons h.1]
    refine ⟨by rw [List.length_cons, h1, List.length_cons], ?_⟩
    rw [List.findIdx?_cons, h2]
    rfl
theorem asgTs_len : ∀ {ts : List Tg} {ds : List D} {e e' : Envd}, asgTs ts ds e = some e' → ts.length = ds.length
  | [], [], _, _, _ => rfl
  | [], _ :: _, _, _, h => by cases h
  | _ :: _, [], _, _, h => by cases h
  | t :: ts, d :: ds, e, e', h => by
    unfold asgTs at h
    cases h1 : asgT t d e with
    | none => rw [h1] at h; cases h
    | some e1 => rw [h1] at h; rw [List.length_cons, List.length_cons, asgTs_len h]
theorem sG_tp {es : List Expr} {k : Nat} {ts : List Tg} (hK : X.K = A.K) (hc : X.calm = true) (hs : es.all notStar = true) (hl : es.length = ts.length) (h : PGs X es (tGs G A ts)) : PG X (.Tuple es k pos) (tG G A (.tp ts)) :=
  PGweak (pg_tup hc h ((assignEach_len hs).1.trans hl) (assignEach_len hs).2) fun v σ H Q ⟨S, e, d, e', R, h, r, q⟩ => by
    unfold asgT at h
    cases r with
    | tup hq rr =>
      refine ⟨_, _, rfl, by rw [hK]; exact hq, ?_, S, e, _, e', R, h, rr, q⟩
      rw [← rr.length, asgTs_len h]
    | _ => cases h

/-! ### what stays while a body runs -/
/-- what may be changed: the slots of M besides those handed to calls -/
def WM (A : Ac) (σ : L2.St) (M : List Nat) : AS := fun a => CelAt A σ a ∨ ∃ i ∈ M, A.ks[i]? = some .own ∧ σ[i]? = some (some (V.ref a))
structure Mh (A : Ac) (S : AS) (σ : L2.St) (M : List Nat) (H : Hp) (S' : AS) (H' : Hp) : Prop where
  kp : Kp (WM A σ M) H H'
  new : ∀ a, S' a → S a ∨ H a = none
theorem SR.wmS {e : Envd} {H : Hp} (R : SR A S e σ H) {M : List Nat} : ∀ a, WM A σ M a → S a := fun a z => by
  rcases z with z | ⟨i, _, h1, h2⟩
  · exact R.celS a z
  · exact (R.own (.inl h1) h2).1
theorem SR.wmD {e : Envd} {H : Hp} (R : SR A S e σ H) {M : List Nat} : ∀ a, WM A σ M a → H a ≠ none := fun a z => R.dom a (R.wmS a z)
theorem Mh.rep {K : PySem.W.Frag} {M : List Nat} {H H' : Hp} {S' : AS} (m : Mh A S σ M H S' H') (hw : ∀ a, WM A σ M a → S a) {d : D} {v : V} (h : Rep K S H d v) : Rep K S' H' d v :=
  ((h.avoid (S' := fun a => S a ∨ S' a) fun b z => z.elim .inl (m.new b)).kp m.kp fun b z => .inl (hw b z)).avoid fun b z => .inl (.inr z)
theorem Mh.repL {K : PySem.W.Frag} {M : List Nat} {H H' : Hp} {S' : AS} (m : Mh A S σ M H S' H') (hw : ∀ a, WM A σ M a → S a) {d : List D} {v : List V} (h : RepL K S H d v) : RepL K S' H' d v :=
  ((h.avoid (S' := fun a => S a ∨ S' a) fun b z => z.elim .inl (m.new b)).kp m.kp fun b z => .inl (hw b z)).avoid fun b z => .inl (.inr z)
theorem Mh.vw {K : PySem.W.Frag} {M : List Nat} {H H' : Hp} {S' : AS} (m : Mh A S σ M H S' H') (hw : ∀ a, WM A σ M a → S a) {d : D} {v : V} (h : Vw K (WM A σ M) S H d v) : Vw K (WM A σ M) S' H' d v :=
  ((h.avoid (S' := fun a => S a ∨ S' a) fun b z => z.elim .inl (m.new b)).kp m.kp fun b z => .inl (hw b z)).avoid fun b z => .inl (.inr z)
/-- J walks ds, whatever a body does that changes no more than M -/
def ItOk (A : Ac) (S : AS) (σ : L2.St) (M : List Nat) (J : L2.It) (ds : List D) (H : Hp) : Prop :=
  ∀ S' H', Mh A S σ M H S' H' → (∀ (i : Nat) d, ds[i]? = some d → J.go i H' ∧ ∀ x H'', J.yld i H' x H'' → Ext H' H'' ∧ Rep A.K S' H'' d x) ∧ ∀ i : Nat, ds.length ≤ i → J.stop i H'
def tI (G : Gam) (A : Ac) (M : List Nat) (it : It) : TI := fun σ H R => ∃ S e r e', SR A S e σ H ∧ denIt G it e = some (r, e') ∧ Post A S σ H (fun H' ds J => ItOk A S σ M J ds H' ∧ ds.length ≤ LIM) R r e'
/-- a value that may be looked at while the slots of M are changed -/
def tEw (G : Gam) (A : Ac) (M : List Nat) (x : E) : TE := fun σ H Q => ∃ S e r e', SR A S e σ H ∧ denE G x e = some (r, e') ∧ Post A S σ H (fun H' d v => Vw A.K (WM A σ M) S H' d v) Q r e'
theorem sEw_of {a : Expr} {x : E} {M : List Nat} (hb : kdE C x ≠ .br) (ha : PE X a (tE (C := C) G A x)) : PE X a (tEw G A M x) :=
  ha.weak fun σ H Q ⟨S, e, r, e', R, h, P⟩ => ⟨S, e, r, e', R, h, by
    cases r with
    | error y => exact P
    | ok d =>
      refine fun v H' q R' z => P v H' q R' ?_
      cases k : kdE C x with
      | br => exact absurd k hb
      | fr => rw [k] at z; exact z.1.vw R.wmD
      | fo => rw [k] at z; exact Fr.vw z R.wmD
      | vl => rw [k] at z; exact .inl z⟩
/-- what may be walked while the slots of M are changed -/
def walkV (C : Cfg) (M : List Nat) (i : Nat) : Bool :=
  match C.ks[i]? with
  | some .val => true
  | some .bor => true
  | some .own => !M.contains i
  | _ => false
theorem WM.own {M : List Nat} {a : Addr} (h : WM A σ M a) : OwnAt A σ a := by
  rcases h with h | ⟨i, _, h1, h2⟩
  · exact h.own
  · exact ⟨i, .inl h1, h2⟩
theorem sEw_v {i : Nat} {n : Str} {M : List Nat} (hk : A.ks = C.ks) (hw : walkV C M i = true) (hN : X.N[i]? = some n) (hv : Vis X.env.scope n) (hd : (n == ("__debug__" : Str)) = false) (hcd : (n == ("__classdict__" : Str)) = false) : PE X (.Name n pos) (tEw G A M (.v i)) := by
  refine (pe_var hN hv hd hcd).weak fun σ H Q ⟨S, e, r, e', R, h, P⟩ => ?_
  obtain ⟨d, h1, rfl, rfl⟩ := bnd_pr (by simpa [denE] using h : pr (getV e i) e = some (r, e'))
  obtain ⟨v, hs, hsl⟩ := R.getV h1
  refine ⟨v, hs, P v H (Kp.refl _ _) R ?_⟩
  rw [hk] at hsl
  unfold walkV at hw
  cases q : C.ks[i]? with
  | none => rw [q] at hw; cases hw
  | some k =>
    rw [q] at hsl hw
    cases k with
    | val => exact .inl hsl
    | bor => exact Vw.less (fun a z => fun b => (R.bo a b).2 z.own) hsl
    | cel => cases hw
    | own =>
      obtain ⟨p, rfl, h1, h2, h3⟩ := hsl
      refine .inr ⟨p, rfl, fun z => ?_, h3⟩
      have ki : A.ks[i]? = some .own := by rw [hk]; exact q
      rcases z with ⟨j, hj, z2⟩ | ⟨j, hj, z1, z2⟩
      · exact R.dist i j p (fun z => by subst z; rw [ki] at hj; cases hj) (.inl ki) (.inr hj) hs z2
      · refine R.dist i j p (fun z => ?_) (.inl ki) (.inl z1) hs z2
        subst z
        simp only [Bool.not_eq_true'] at hw
        rw [List.contains_iff_mem.mpr hj] at hw
        cases hw
end Rf

set_option maxRecDepth 100000
set_option maxHeartbeats 1000000
/-! Rf13: the walks. -/
namespace Rf
open PySem PySem.Spec PyProof.Rows L2
variable [TN]
variable {X : Cx} {C : Cfg} {G : Gam} {A : Ac} {S : AS} {σ : L2.St} {pos : Pos}

/-- no list, no tuple is longer than the line -/
def Bd (K : PySem.W.Frag) (H : Hp) : Prop := (∀ a xs, SqL K H a xs → xs.length ≤ LIM) ∧ ∀ a xs, SqT K H a xs → xs.length ≤ LIM
theorem Bd.of {pins : List (Addr × Obj)} {H : Hp} {s : Shared} (I : Inv X pins σ H s) : Bd X.K H :=
  ⟨fun a xs h => let ⟨_, _, _, z⟩ := I.list h; z, fun a xs h => let ⟨_, _, _, z⟩ := I.tuple h; z⟩
theorem PE.bd {e : Expr} {t : TE} (h : PE X e t) : PE X e (fun σ H Q => t σ H fun v H1 => Bd X.K H1 → Q v H1) :=
  ⟨fun pins s σ H Q I q => thn (h.run pins s σ H _ I q) fun u s1 ⟨v, H1, I1, r, z⟩ => ⟨v, H1, I1, r, z (Bd.of I1)⟩⟩
theorem PA.bd {e : List Expr} {t : TA} (h : PA X e t) : PA X e (fun σ H Q => t σ H fun v H1 => Bd X.K H1 → Q v H1) :=
  ⟨fun po pins s σ H Q I q => thn (h.run po pins s σ H _ I q) fun u s1 ⟨v, H1, I1, r, z⟩ => ⟨v, H1, I1, r, z (Bd.of I1)⟩⟩
theorem PIweak {tg e : Expr} {t t' : TI} (h : PI X tg e t) (m : ∀ σ H Q, t' σ H Q → t σ H Q) : PI X tg e t' := ⟨fun pins s σ H Q I q => h.run pins s σ H Q I (m σ H Q q)⟩

/-! ### the items -/
theorem ItOk.lst {M : List Nat} {H : Hp} {ds : List D} {a : Addr} (hw : ∀ b, WM A σ M b → S b) (h : Vw A.K (WM A σ M) S H (.lst ds) (.ref a)) : ItOk A S σ M (Itl A.K a) ds H := by
  intro S' H' m
  obtain ⟨a', xs, e1, hq, rr⟩ := (m.vw hw h).lst
  cases e1
  refine ⟨fun i d hd => ?_, fun i hi => ⟨xs, hq, by rw [← rr.length]; exact hi⟩⟩
  obtain ⟨x, hx, r⟩ := rr.get hd
  refine ⟨⟨xs, x, hq, hx⟩, fun y H'' ⟨e1, h1⟩ => ?_⟩
  subst e1
  have h2 := h1 xs hq
  rw [hx] at h2
  cases h2
  exact ⟨Ext.refl _, r⟩
theorem ItOk.tup {M : List Nat} {H : Hp} {ds : List D} {a : Addr} (hw : ∀ b, WM A σ M b → S b) (h : Vw A.K (WM A σ M) S H (.tup ds) (.ref a)) : ItOk A S σ M (Itt A.K a) ds H := by
  intro S' H' m
  obtain ⟨a', xs, e1, hq, rr⟩ := (m.vw hw h).tup
  cases e1
  refine ⟨fun i d hd => ?_, fun i hi => ⟨xs, hq, by rw [← rr.length]; exact hi⟩⟩
  obtain ⟨x, hx, r⟩ := rr.get hd
  refine ⟨⟨xs, x, hq, hx⟩, fun y H'' ⟨e1, h1⟩ => ?_⟩
  subst e1
  have h2 := h1 xs hq
  rw [hx] at h2
  cases h2
  exact ⟨Ext.refl _, r⟩
theorem ItOk.str {M : List Nat} {H : Hp} {x : Str} : ItOk A S σ M (Its x) (x.cps.toList.map fun c => .str ⟨#[c]⟩) H := by
  intro S' H' m
  refine ⟨fun i d hd => ?_, fun i hi => by show x.cps.size ≤ i; simpa using hi⟩
  rw [List.getElem?_map, Array.getElem?_toList] at hd
  cases hc : x.cps[i]? with
  | none => rw [hc] at hd; cases hd
  | some c =>
    rw [hc] at hd
    cases hd
    refine ⟨(Array.getElem?_eq_some_iff.mp hc).1, fun y H'' ⟨e1, c', h1, h2⟩ => ?_⟩
    subst e1 h2
    rw [hc] at h1
    cases h1
    exact ⟨Ext.refl _, .str _⟩
theorem Rep.pair {K : PySem.W.Frag} {H : Hp} {T : Addr} {x y : V} {d d2 : D} (hn : H T = none) (h1 : Rep K S H d x) (h2 : Rep K S H d2 y) : Ext H (upd H T (.tup [x, y])) ∧ Rep K S (upd H T (.tup [x, y])) (.tup [d, d2]) (.ref T) := by
  have ex : Ext H (upd H T (.tup [x, y])) := Ext.new hn
  have no : ∀ b, (fun (_ : Addr) => False) b → S b := fun b z => z.elim
  exact ⟨ex, .tup (.inl (.inl upd_same)) (.cons (h1.kp (Kp.ext ex) no) (.cons (h2.kp (Kp.ext ex) no) .nil))⟩
theorem enumF_get : ∀ (ds : List D) (k i : Nat), (enumF k ds)[i]? = (ds[i]?).map fun d => .tup [.int ((k + i : Nat) : Int), d]
  | [], k, i => by simp [enumF]
  | d :: ds, k, 0 => by simp [enumF]
  | d :: ds, k, i + 1 => by
    rw [enumF, List.getElem?_cons_succ, List.getElem?_cons_succ, enumF_get ds (k + 1) i]
    have e : k + 1 + i = k + (i + 1) := by omega
    rw [e]
theorem enumF_len : ∀ (ds : List D) (k : Nat), (enumF k ds).length = ds.length
  | [], k => rfl
  | d :: ds, k => by rw [enumF, List.length_cons, List.length_cons, enumF_len ds]
theorem ItOk.en {M : List Nat} {H : Hp} {ds : List D} {a : Addr} (hw : ∀ b, WM A σ M b → S b) (h : Vw A.K (WM A σ M) S H (.lst ds) (.ref a)) : ItOk A S σ M (Ite A.K a) (enumF 0 ds) H := by
  intro S' H' m
  obtain ⟨a', xs, e1, hq, rr⟩ := (m.vw hw h).lst
  cases e1
  refine ⟨fun i d hd => ?_, fun i hi => ⟨xs, hq, by rw [← rr.length]; rw [enumF_len] at hi; exact hi⟩⟩
  rw [enumF_get] at hd
  cases hd' : ds[i]? with
  | none => rw [hd'] at hd; cases hd
  | some d0 =>
    rw [hd'] at hd
    cases hd
    obtain ⟨x, hx, r⟩ := rr.get hd'
    refine ⟨⟨xs, x, hq, hx⟩, fun y H'' ⟨T, x', e1, hn, e2, h1⟩ => ?_⟩
    subst e1 e2
    have h2 := h1 xs hq
    rw [hx] at h2
    cases h2
    rw [Nat.zero_add]
    exact Rep.pair hn (.int _) r
theorem ItOk.enT {M : List Nat} {H : Hp} {ds : List D} {a : Addr} (hw : ∀ b, WM A σ M b → S b) (h : Vw A.K (WM A σ M) S H (.tup ds) (.ref a)) : ItOk A S σ M (IteT A.K a) (enumF 0 ds) H := by
  intro S' H' m
  obtain ⟨a', xs, e1, hq, rr⟩ := (m.vw hw h).tup
  cases e1
  refine ⟨fun i d hd => ?_, fun i hi => ⟨xs, hq, by rw [← rr.length]; rw [enumF_len] at hi; exact hi⟩⟩
  rw [enumF_get] at hd
  cases hd' : ds[i]? with
  | none => rw [hd'] at hd; cases hd
  | some d0 =>
    rw [hd'] at hd
    cases hd
    obtain ⟨x, hx, r⟩ := rr.get hd'
    refine ⟨⟨xs, x, hq, hx⟩, fun y H'' ⟨T, x', e1, hn, e2, h1⟩ => ?_⟩
    subst e1 e2
    have h2 := h1 xs hq
    rw [hx] at h2
    cases h2
    rw [Nat.zero_add]
    exact Rep.pair hn (.int _) r
theorem zipF_get : ∀ (as bs : List D) (i : Nat), (zipF as bs)[i]? = match as[i]?, bs[i]? with
    | some x, some y => some (.tup [x, y])
    | _, _ => none
  | [], bs, i => by cases bs <;> simp [zipF]
  | a :: as, [], i => by
    simp only [zipF, List.getElem?_nil]
    cases (a :: as)[i]? <;> rfl
  | a :: as, b :: bs, 0 => by simp [zipF]
  | a :: as, b :: bs, i + 1 => by
    rw [zipF, List.getElem?_cons_succ, List.getElem?_cons_succ, List.getElem?_cons_succ, zipF_get as bs i]
theorem zipF_len : ∀ (as bs : List D), (zipF as bs).length = min as.length bs.length
  | [], bs => by cases bs <;> simp [zipF]
  | a :: as, [] => by simp [zipF]
  | a :: as, b :: bs => by rw [zipF, List.length_cons, zipF_len as bs]; simp
theorem ItOk.zp {M : List Nat} {H : Hp} {ds es : List D} {a b : Addr} (hw : ∀ b, WM A σ M b → S b) (h : Vw A.K (WM A σ M) S H (.lst ds) (.ref a)) (h' : Vw A.K (WM A σ M) S H (.lst es) (.ref b)) : ItOk A S σ M (Itz A.K a b) (zipF ds es) H := by
  intro S' H' m
  obtain ⟨a', xs, e1, hq, rr⟩ := (m.vw hw h).lst
  cases e1
  obtain ⟨b', ys, e1, hq2, rr2⟩ := (m.vw hw h').lst
  cases e1
  refine ⟨fun i d hd => ?_, fun i hi => ⟨xs, ys, hq, hq2, by rw [zipF_len] at hi; rw [← rr.length, ← rr2.length]; omega⟩⟩
  rw [zipF_get] at hd
  cases h1 : ds[i]? with
  | none => rw [h1] at hd; cases hd
  | some d1 =>
    cases h2 : es[i]? with
    | none => rw [h1, h2] at hd; cases hd
    | some d2 =>
      rw [h1, h2] at hd
      cases hd
      obtain ⟨x, hx, r⟩ := rr.get h1
      obtain ⟨y, hy, r2⟩ := rr2.get h2
      refine ⟨⟨xs, ys, x, y, hq, hq2, hx, hy⟩, fun z H'' ⟨T, x', y', e1, hn, e2, z1, z2⟩ => ?_⟩
      subst e1 e2
      have z1 := z1 xs hq
      have z2 := z2 ys hq2
      rw [hx] at z1
      rw [hy] at z2
      cases z1
      cases z2
      exact Rep.pair hn r r2
theorem ItOk.zpT {M : List Nat} {H : Hp} {ds es : List D} {a b : Addr} (hw : ∀ b, WM A σ M b → S b) (h : Vw A.K (WM A σ M) S H (.tup ds) (.ref a)) (h' : Vw A.K (WM A σ M) S H (.tup es) (.ref b)) : ItOk A S σ M (RZ.ItzT A.K a b) (zipF ds es) H := by
  intro S' H' m
  obtain ⟨a', xs, e1, hq, rr⟩ := (m.vw hw h).tup
  cases e1
  obtain ⟨b', ys, e1, hq2, rr2⟩ := (m.vw hw h').tup
  cases e1
  refine ⟨fun i d hd => ?_, fun i hi => ⟨xs, ys, hq, hq2, by rw [zipF_len] at hi; rw [← rr.length, ← rr2.length]; omega⟩⟩
  rw [zipF_get] at hd
  cases h1 : ds[i]? with
  | none => rw [h1] at hd; cases hd
  | some d1 =>
    cases h2 : es[i]? with
    | none => rw [h1, h2] at hd; cases hd
    | some d2 =>
      rw [h1, h2] at hd
      cases hd
      obtain ⟨x, hx, r⟩ := rr.get h1
      obtain ⟨y, hy, r2⟩ := rr2.get h2
      refine ⟨⟨xs, ys, x, y, hq, hq2, hx, hy⟩, fun z H'' ⟨T, x', y', e1, hn, e2, z1, z2⟩ => ?_⟩
      subst e1 e2
      have z1 := z1 xs hq
      have z2 := z2 ys hq2
      rw [hx] at z1
      rw [hy] at z2
      cases z1
      cases z2
      exact Rep.pair hn r r2
theorem rngF_get : ∀ (n : Nat) (lo : Int) (i : Nat), (rngF lo n)[i]? = if i < n then some (.int (lo + i)) else none
  | 0, lo, i => by simp [rngF]
  | n + 1, lo, 0 => by simp [rngF]
  | n + 1, lo, i + 1 => by
    rw [rngF, List.getElem?_cons_succ, rngF_get n (lo + 1) i]
    have e : lo + 1 + (i : Int) = lo + ((i + 1 : Nat) : Int) := by omega
    rw [e]
    simp
theorem rngF_len : ∀ (n : Nat) (lo : Int), (rngF lo n).length = n
  | 0, lo => rfl
  | n + 1, lo => by rw [rngF, List.length_cons, rngF_len n]
theorem ItOk.rng {M : List Nat} {H : Hp} {lo : Int} {n : Nat} : ItOk A S σ M (Itr lo n) (rngF lo n) H := by
  intro S' H' m
  refine ⟨fun i d hd => ?_, fun i hi => by show n ≤ i; rw [rngF_len] at hi; exact hi⟩
  rw [rngF_get] at hd
  split at hd
  · rename_i h
    cases hd
    refine ⟨h, fun y H'' ⟨e1, e2⟩ => ?_⟩
    subst e1 e2
    exact ⟨Ext.refl _, .int _⟩
  · cases hd

/-! ### the rules -/
theorem tEw_then {M : List Nat} {x : E} {α : Type} {f : D → Envd → Rs α} {e : Envd} {H : Hp} {r : Except Exc α} {e' : Envd} {Q : VK} (R : SR A S e σ H) (h : bnd (denE G x e) f = some (r, e'))
    (pe : ∀ y, r = .error y → ∀ cls dd H', Kp (CelAt A σ) H H' → SR A S e' σ H' → ExR A H' y cls dd → A.XW cls dd H')
    (next : ∀ d e1 v H1, f d e1 = some (r, e') → Kp (CelAt A σ) H H1 → SR A S e1 σ H1 → Vw A.K (WM A σ M) S H1 d v → Q v H1) : tEw G A M x σ H Q := by
  cases q : denE G x e with
  | none => rw [q] at h; cases h
  | some o =>
    obtain ⟨r1, e1⟩ := o
    rw [q] at h
    cases r1 with
    | error y =>
      cases h
      exact ⟨S, e, .error y, _, R, q, pe y rfl⟩
    | ok d => exact ⟨S, e, .ok d, e1, R, q, fun v H1 k R1 x => next d e1 v H1 h k R1 x⟩
theorem ref_of_lst {K : PySem.W.Frag} {W : AS} {H : Hp} {ds : List D} {v : V} (h : Vw K W S H (.lst ds) v) : ∃ a xs, v = .ref a ∧ SqL K H a xs ∧ xs.length = ds.length := by
  obtain ⟨a, xs, e, hq, rr⟩ := h.lst
  exact ⟨a, xs, e, hq, rr.length.symm⟩
theorem ref_of_tup {K : PySem.W.Frag} {W : AS} {H : Hp} {ds : List D} {v : V} (h : Vw K W S H (.tup ds) v) : ∃ a xs, v = .ref a ∧ SqT K H a xs ∧ xs.length = ds.length := by
  obtain ⟨a, xs, e, hq, rr⟩ := h.tup
  exact ⟨a, xs, e, hq, rr.length.symm⟩
theorem sI_sq {tg a : Expr} {x : E} {M : List Nat} (hK : X.K = A.K) (ha : PE X a (tEw G A M x)) : PI X tg a (tI G A M (.sq x)) := by
  refine PIweak (pi_seq (PE.bd ha)) fun σ H Q ⟨S, e, r, e', R, h, P⟩ => ?_
  refine tEw_then R (by simpa only [denIt] using h) P.err fun d e1 v H1 h1 k1 R1 w1 bd => ?_
  obtain ⟨ds, h2, rfl, rfl⟩ := bnd_pr h1
  have P : ∀ J H', Kp (CelAt A σ) H H' → SR A S e' σ H' → (ItOk A S σ M J ds H' ∧ ds.length ≤ LIM) → Q J H' := P
  rw [hK] at bd ⊢
  cases d with
  | lst xs =>
    cases h2
    obtain ⟨a, ys, rfl, hq, hl⟩ := ref_of_lst w1
    exact .inl ⟨a, ys, rfl, hq, P _ H1 k1 R1 ⟨ItOk.lst R.wmS w1, by rw [← hl]; exact bd.1 a ys hq⟩⟩
  | tup xs =>
    cases h2
    obtain ⟨a, ys, rfl, hq, hl⟩ := ref_of_tup w1
    exact .inr (.inl ⟨a, ys, rfl, hq, P _ H1 k1 R1 ⟨ItOk.tup R.wmS w1, by rw [← hl]; exact bd.2 a ys hq⟩⟩)
  | str x =>
    have h2 : (if x.cps.size ≤ LIM then some (x.cps.toList.map fun c => D.str ⟨#[c]⟩) else none) = some ds := h2
    split at h2
    · rename_i hs
      cases h2
      obtain rfl := w1.str
      exact .inr (.inr ⟨x, rfl, P _ H1 k1 R1 ⟨ItOk.str, by simpa using hs⟩⟩)
    · cases h2
  | _ => cases h2
theorem sI_en {a : Expr} {x : E} {M : List Nat} {p tpos : Pos} {elts : List Expr} {kk : Nat} {n : Str} (hn : n = "enumerate") (hK : X.K = A.K) (hg : Gl X n) (hm : X.mg n = none) (hs : notStar a = true) (ha : PE X a (tEw G A M x)) :
    PI X (.Tuple elts kk tpos) (.Call (.Name n p) [a] [] pos) (tI G A M (.en x)) := by
  subst hn
  refine PIweak (pi_enumA hg hm (PA.bd (pa_cons ha pa_nil (star_cons hs))) (star_cons hs)) fun σ H Q ⟨S, e, r, e', R, h, P⟩ => ?_
  refine tEw_then R (by simpa only [denIt] using h) P.err fun d e1 v H1 h1 k1 R1 w1 bd => ?_
  obtain ⟨ds, h2, rfl, rfl⟩ := bnd_pr h1
  have P : ∀ J H', Kp (CelAt A σ) H H' → SR A S e' σ H' → (ItOk A S σ M J ds H' ∧ ds.length ≤ LIM) → Q J H' := P
  rw [hK] at bd ⊢
  cases d with
  | lst xs =>
    cases h2
    obtain ⟨a, ys, rfl, hq, hl⟩ := ref_of_lst w1
    exact ⟨a, ys, rfl, .inl ⟨hq, P _ H1 k1 R1 ⟨ItOk.en R.wmS w1, by rw [enumF_len, ← hl]; exact bd.1 a ys hq⟩⟩⟩
  | tup xs =>
    cases h2
    obtain ⟨a, ys, rfl, hq, hl⟩ := ref_of_tup w1
    exact ⟨a, ys, rfl, .inr ⟨hq, P _ H1 k1 R1 ⟨ItOk.enT R.wmS w1, by rw [enumF_len, ← hl]; exact bd.2 a ys hq⟩⟩⟩
  | _ => cases h2
theorem sI_zp {a b : Expr} {x y : E} {M : List Nat} {p tpos : Pos} {elts : List Expr} {kk : Nat} {n : Str} (hn : n = "zip") (hK : X.K = A.K) (hg : Gl X n) (hm : X.mg n = none) (hs : notStar a = true) (hs2 : notStar b = true) (ha : PE X a (tEw G A M x)) (hb : PE X b (tEw G A M y)) :
    PI X (.Tuple elts kk tpos) (.Call (.Name n p) [a, b] [] pos) (tI G A M (.zp x y)) := by
  subst hn
  refine PIweak (RZ.pi_zipA hg hm (PA.bd (pa_cons ha (pa_cons hb pa_nil (star_cons hs2)) (star_cons hs))) (star_cons hs) (star_any (by simp [hs2]))) fun σ H Q ⟨S, e, r, e', R, h, P⟩ => ?_
  refine tEw_then R (by simpa only [denIt] using h) P.err fun d e1 v H1 h1 k1 R1 w1 => ?_
  refine tEw_then R1 h1 (fun y hy => (Post.err P y hy · · · <| k1.trans ·)) fun d2 e2 v2 H2 h2 k2 R2 w2 bd => ?_
  obtain ⟨ds, h2, rfl, rfl⟩ := bnd_pr h2
  have P : ∀ J H', Kp (CelAt A σ) H H' → SR A S e' σ H' → (ItOk A S σ M J ds H' ∧ ds.length ≤ LIM) → Q J H' := P
  have w1 : Vw A.K (WM A σ M) S H2 d v := w1.kp (k2.mono fun a z => Or.inl z) R.wmS
  rw [hK] at bd ⊢
  cases d with
  | lst xs =>
    cases d2 with
    | lst ys =>
      cases h2
      obtain ⟨a, us, rfl, hq, hl⟩ := ref_of_lst w1
      obtain ⟨b, ws, rfl, hq2, hl2⟩ := ref_of_lst w2
      exact ⟨a, b, us, ws, rfl, .inl ⟨hq, hq2, P _ H2 (k1.trans k2) R2 ⟨ItOk.zp R.wmS w1 w2, by rw [zipF_len, ← hl]; have := bd.1 a us hq; omega⟩⟩⟩
    | _ => cases h2
  | tup xs =>
    cases d2 with
    | tup ys =>
      cases h2
      obtain ⟨a, us, rfl, hq, hl⟩ := ref_of_tup w1
      obtain ⟨b, ws, rfl, hq2, hl2⟩ := ref_of_tup w2
      exact ⟨a, b, us, ws, rfl, .inr ⟨hq, hq2, P _ H2 (k1.trans k2) R2 ⟨ItOk.zpT R.wmS w1 w2, by rw [zipF_len, ← hl]; have := bd.2 a us hq; omega⟩⟩⟩
    | _ => cases h2
  | _ => cases h2
theorem sI_r1 {tg a : Expr} {x : E} {M : List Nat} {p : Pos} {n : Str} (hn : n = "range") (hg : Gl X n) (hm : X.mg n = none) (hs : notStar a = true) (ha : PE X a (tEw G A [] x)) : PI X tg (.Call (.Name n p) [a] [] pos) (tI G A M (.r1 x)) := by
  subst hn
  refine PIweak (pi_range1 hg hm (pa_cons ha pa_nil (star_cons hs)) (star_cons hs)) fun σ H Q ⟨S, e, r, e', R, h, P⟩ => ?_
  refine tEw_then R (by simpa only [denIt] using h) P.err fun d e1 v H1 h1 k1 R1 w1 => ?_
  obtain ⟨ds, h2, rfl, rfl⟩ := bnd_pr h1
  have P : ∀ J H', Kp (CelAt A σ) H H' → SR A S e' σ H' → (ItOk A S σ M J ds H' ∧ ds.length ≤ LIM) → Q J H' := P
  cases d with
  | int j =>
    simp only [rngD] at h2
    split at h2
    · rename_i g
      cases h2
      obtain rfl := w1.int
      refine ⟨j, rfl, g.2.2.1, g.2.2.2.1, P _ H1 k1 R1 ⟨?_, by rw [rngF_len]; exact g.2.2.2.2⟩⟩
      rw [Int.sub_zero]
      exact ItOk.rng
    · cases h2
  | _ => cases h2
theorem sI_r2 {tg a b : Expr} {x y : E} {M : List Nat} {p : Pos} {n : Str} (hn : n = "range") (hg : Gl X n) (hm : X.mg n = none) (hs : notStar a = true) (hs2 : notStar b = true) (ha : PE X a (tEw G A [] x)) (hb : PE X b (tEw G A [] y)) :
    PI X tg (.Call (.Name n p) [a, b] [] pos) (tI G A M (.r2 x y)) := by
  subst hn
  refine PIweak (pi_range2 hg hm (pa_cons ha (pa_cons hb pa_nil (star_cons hs2)) (star_cons hs)) (by rw [star_cons hs, star_cons hs2]; rfl) (by rw [star_cons hs2]; rfl)) fun σ H Q ⟨S, e, r, e', R, h, P⟩ => ?_
  refine tEw_then R (by simpa only [denIt] using h) P.err fun d e1 v H1 h1 k1 R1 w1 => ?_
  refine tEw_then R1 h1 (fun y hy => (Post.err P y hy · · · <| k1.trans ·)) fun d2 e2 v2 H2 h2 k2 R2 w2 => ?_
  obtain ⟨ds, h2, rfl, rfl⟩ := bnd_pr h2
  have P : ∀ J H', Kp (CelAt A σ) H H' → SR A S e' σ H' → (ItOk A S σ M J ds H' ∧ ds.length ≤ LIM) → Q J H' := P
  cases d with
  | int i =>
    cases d2 with
    | int j =>
      simp only [rngD] at h2
      split at h2
      · rename_i g
        cases h2
        obtain rfl := w1.int
        obtain rfl := w2.int
        exact ⟨i, j, rfl, ⟨g.1, g.2.1, g.2.2.1, g.2.2.2.1⟩, P _ H2 (k1.trans k2) R2 ⟨ItOk.rng, by rw [rngF_len]; exact g.2.2.2.2⟩⟩
      · cases h2
    | _ => cases h2
  | _ => cases h2
end Rf

set_option maxRecDepth 100000
set_option maxHeartbeats 1000000
/-! Rf14: list comprehensions. -/
namespace Rf
open PySem PySem.Spec PyProof.Rows L2
variable [TN]
variable {X : Cx} {C : Cfg} {G : Gam} {A : Ac} {S : AS} {σ : L2.St} {pos : Pos}

/-- the heap changed where no slot stands -/
theorem SR.other {e : Envd} {H H' : Hp} {W : AS} (R : SR A S e σ H) (q : Kp W H H') (hS : ∀ a, W a → S a) (hO : ∀ a, W a → ¬ OwnAt A σ a) (hb : ∀ a, A.bo a → ¬ W a) (h0 : ∀ a, W a → A.H0 a = none) : SR A S e σ H' where
  len := R.len
  s0 := R.s0
  s0h := R.s0h
  dom := fun a h => q.dom a (R.dom a h)
  new := R.new
  wp := R.wp
  fr := ⟨fun a o h n t => q.keep a o (R.fr.keep a o h n t) (fun z => by rw [h0 a z] at h; cases h) t, fun a xs h => q.tup a xs (R.fr.tup a xs h), fun a h => q.dom a (R.fr.dom a h), fun a o u h => q.frz a o u (R.fr.frz a o u h), fun a h => q.tbl a (R.fr.tbl a h)⟩
  non := R.non
  slot := fun i d h => by
    obtain ⟨v, h1, h2⟩ := R.slot i d h
    exact ⟨v, h1, h2.kp q hS hb fun a hv ho z => hO a z ⟨i, ho, by rw [h1, hv]⟩⟩
  dist := R.dist
  bo := fun a h => ⟨q.dom a (R.bo a h).1, (R.bo a h).2⟩
  pc := R.pc
theorem SR.kp0 {e : Envd} {H H' : Hp} (R : SR A S e σ H) (q : Kp (fun _ => False) H H') : SR A S e σ H' := R.other q (fun _ z => z.elim) (fun _ z => z.elim) (fun _ _ z => z) fun _ z => z.elim
theorem SlR.avoid {S' : AS} {H : Hp} {k : Option SK} {d : D} {v : V} (hs : ∀ a, S a → S' a) (m : ∀ b, S' b → S b ∨ H b = none) (h : SlR A S H k d v) : SlR A S' H k d v := by
  cases k with
  | none => exact h.elim
  | some k =>
    cases k with
    | val => exact Rep.avoid m h
    | bor => exact Vw.avoid m h
    | own => obtain ⟨a, e1, e2, e3, e4⟩ := h; exact ⟨a, e1, hs a e2, e3, e4.avoid m⟩
    | cel => obtain ⟨a, e1, e2, e3, e4⟩ := h; exact ⟨a, e1, hs a e2, e3, e4.avoid m⟩
theorem SR.h0 {e : Envd} {H : Hp} (R : SR A S e σ H) {D : Addr} (h : H D = none) : A.H0 D = none := by
  cases q : A.H0 D with
  | none => rfl
  | some o => exact absurd h (R.fr.dom D (by rw [q]; exact fun z => nomatch z))
theorem SR.allocK {e : Envd} {H H' : Hp} {D : Addr} (R : SR A S e σ H) (hn : H D = none) (x : Kp (fun _ => False) H H') (hd : H' D ≠ none) : SR A (plusA S D) e σ H' where
  len := R.len
  s0 := fun a h => .inl (R.s0 a h)
  s0h := R.s0h
  dom := fun a h => by
    rcases h with h | rfl
    · exact x.dom a (R.dom a h)
    · exact hd
  new := fun a h => by
    rcases h with h | rfl
    · exact R.new a h
    · exact .inr (R.h0 hn)
  wp := R.wp
  fr := R.fr.trans (x.mono fun _ z => z.elim)
  non := R.non
  slot := fun i d h => by
    obtain ⟨v, h1, h2⟩ := R.slot i d h
    exact ⟨v, h1, (h2.avoid (S' := plusA S D) (fun a z => .inl z) fun b z => z.elim .inl fun e => .inr (by rw [e]; exact hn)).kp x (fun _ z => z.elim) (fun _ _ z => z) fun _ _ _ z => z⟩
  dist := R.dist
  bo := fun a h => ⟨x.dom a (R.bo a h).1, (R.bo a h).2⟩
  pc := R.pc
theorem SR.alloc {e : Envd} {H H' : Hp} {D : Addr} (R : SR A S e σ H) (hn : H D = none) (x : Ext H H') (hd : H' D ≠ none) : SR A (plusA S D) e σ H' := R.allocK hn (Kp.ext x) hd
theorem wipe_in {i : Nat} : ∀ {vs : List Nat} {σ : L2.St}, i ∈ vs → i < σ.length → (wipe σ vs)[i]? = some none
  | v :: vs, σ, h, hl => by
    unfold wipe
    by_cases e : v = i
    · subst e
      exact List.getElem?_set_self (by rw [wipe_length]; exact hl)
    · rw [List.getElem?_set_ne e]
      rcases List.mem_cons.mp h with z | z
      · exact absurd z.symm e
      · exact wipe_in z hl
theorem wipeE_len (e : Envd) : ∀ vs : List Nat, (wipeE e vs).length = e.length
  | [] => rfl
  | v :: vs => by unfold wipeE; rw [List.length_set, wipeE_len e vs]
theorem wipeE_in {i : Nat} : ∀ {vs : List Nat} {e : Envd}, i ∈ vs → i < e.length → (wipeE e vs)[i]? = some none
  | v :: vs, e, h, hl => by
    unfold wipeE
    by_cases z : v = i
    · subst z
      exact List.getElem?_set_self (by rw [wipeE_len]; exact hl)
    · rw [List.getElem?_set_ne z]
      rcases List.mem_cons.mp h with q | q
      · exact absurd q.symm z
      · exact wipeE_in q hl
theorem wipeE_out {i : Nat} : ∀ {vs : List Nat} {e : Envd}, i ∉ vs → (wipeE e vs)[i]? = e[i]?
  | [], e, _ => rfl
  | v :: vs, e, h => by
    unfold wipeE
    rw [List.getElem?_set_ne (fun (z : v = i) => h (by rw [z]; exact List.mem_cons_self))]
    exact wipeE_out fun z => h (List.mem_cons_of_mem _ z)
theorem backE_len (e0 e : Envd) : ∀ vs : List Nat, (backE e0 e vs).length = e.length
  | [] => rfl
  | v :: vs => by unfold backE; rw [List.length_set, backE_len e0 e vs]
theorem backE_in {i : Nat} {e0 : Envd} : ∀ {vs : List Nat} {e : Envd}, i ∈ vs → i < e.length → (backE e0 e vs)[i]? = some (getV e0 i)
  | v :: vs, e, h, hl => by
    unfold backE
    by_cases z : v = i
    · subst z
      exact List.getElem?_set_self (by rw [backE_len]; exact hl)
    · rw [List.getElem?_set_ne z]
      rcases List.mem_cons.mp h with q | q
      · exact absurd q.symm z
      · exact backE_in q hl
theorem backE_out {i : Nat} {e0 : Envd} : ∀ {vs : List Nat} {e : Envd}, i ∉ vs → (backE e0 e vs)[i]? = e[i]?
  | [], e, _ => rfl
  | v :: vs, e, h => by
    unfold backE
    rw [List.getElem?_set_ne (fun (z : v = i) => h (by rw [z]; exact List.mem_cons_self))]
    exact backE_out fun z => h (List.mem_cons_of_mem _ z)
/-- the slots that do not own: other there, the same owned addresses -/
theorem celAt_congr {σ' : L2.St} (h : ∀ i : Nat, A.ks[i]? = some .cel → σ'[i]? = σ[i]?) (a : Addr) : CelAt A σ' a ↔ CelAt A σ a :=
  ⟨fun ⟨i, h1, h2⟩ => ⟨i, h1, by rw [← h i h1]; exact h2⟩, fun ⟨i, h1, h2⟩ => ⟨i, h1, by rw [h i h1]; exact h2⟩⟩
theorem ownAt_congr {σ' : L2.St} (h : ∀ i : Nat, Ownish A i → σ'[i]? = σ[i]?) (a : Addr) : OwnAt A σ' a ↔ OwnAt A σ a :=
  ⟨fun ⟨i, h1, h2⟩ => ⟨i, h1, by rw [← h i h1]; exact h2⟩, fun ⟨i, h1, h2⟩ => ⟨i, h1, by rw [h i h1]; exact h2⟩⟩
/-- from one state to another that agrees on all slots that own -/
theorem SR.move {e e' : Envd} {H : Hp} {σ' : L2.St} (R : SR A S e σ H) (hl : e'.length = σ'.length) (ho : ∀ i : Nat, Ownish A i → σ'[i]? = σ[i]?) (hn : ∀ i : Nat, e'[i]? = some none → Ownish A i → σ'[i]? = some none)
    (hs : ∀ (i : Nat) (d : D), e'[i]? = some (some d) → ∃ v, σ'[i]? = some (some v) ∧ SlR A S H A.ks[i]? d v) : SR A S e' σ' H :=
  ⟨hl, R.s0, R.s0h, R.dom, R.new, R.wp, R.fr, hn, hs, fun i j a hij hi hj h1 h2 => R.dist i j a hij hi hj (by rw [← ho i hi]; exact h1) (by rw [← ho j hj]; exact h2),
    fun a h => ⟨(R.bo a h).1, fun z => (R.bo a h).2 ((ownAt_congr ho a).mp z)⟩, fun p hp => ⟨(R.pc p hp).1, by rw [ho p.1 (.inr (R.pc p hp).1)]; exact (R.pc p hp).2⟩⟩
theorem SR.wipe {e : Envd} {H : Hp} {vs : List Nat} (R : SR A S e σ H) (hv : ∀ i ∈ vs, A.ks[i]? = some .val) : SR A S (wipeE e vs) (wipe σ vs) H := by
  have no : ∀ i : Nat, Ownish A i → i ∉ vs := fun i h z => not_ownish (hv i z) h
  refine R.move (by rw [wipeE_len, wipe_length]; exact R.len) (fun i h => wipe_out (no i h)) (fun i h ho => ?_) fun i d h => ?_
  · by_cases z : i ∈ vs
    · refine wipe_in z ?_
      have := (List.getElem?_eq_some_iff.mp h).1
      rw [wipeE_len, R.len] at this
      exact this
    · rw [wipeE_out z] at h
      rw [wipe_out z]
      exact R.non i h ho
  · by_cases z : i ∈ vs
    · have := (List.getElem?_eq_some_iff.mp h).1
      rw [wipeE_len] at this
      rw [wipeE_in z this] at h
      cases h
    · rw [wipeE_out z] at h
      rw [wipe_out z]
      exact R.slot i d h
/-- inside a block no exception is waited for -/
def Ac.blk (A : Ac) : Ac := { A with XW := fun _ _ _ => False }
theorem SR.blk {e : Envd} {H : Hp} (R : SR A S e σ H) : SR A.blk S e σ H := ⟨R.len, R.s0, R.s0h, R.dom, R.new, R.wp, R.fr, R.non, R.slot, R.dist, R.bo, R.pc⟩
theorem SR.unblk {e : Envd} {H : Hp} (R : SR A.blk S e σ H) : SR A S e σ H := ⟨R.len, R.s0, R.s0h, R.dom, R.new, R.wp, R.fr, R.non, R.slot, R.dist, R.bo, R.pc⟩
/-- at most one test -/
def tC (G : Gam) (A : Ac) (cs : Es) : TT := fun σ H Q => ∃ S e r e', SR A S e σ H ∧ denCs G cs e = some (r, e') ∧ PostB A S σ H Q r e'
theorem PTsweak {X : Cx} {e : List Expr} {t t' : TT} (h : PTs X e t) (m : ∀ σ H Q, t' σ H Q → t σ H Q) : PTs X e t' := ⟨fun pins s σ H Q I q => h.run pins s σ H Q I (m σ H Q q)⟩
theorem sC_nil : PTs X [] (tC G A .nil) := PTsweak pts_nil fun σ H Q ⟨S, e, r, e', R, h, P⟩ => by
  have h' : some (Except.ok true, e) = some (r, e') := by simpa [denCs] using h
  cases h'
  exact P true H (Kp.refl _ _) R rfl
theorem sC_one {c : Expr} {x : E} (h : PT X c (tT G A x)) : PTs X [c] (tC G A (.cons x .nil)) := PTsweak (pts_one h) fun σ H Q ⟨S, e, r, e', R, h, P⟩ => ⟨S, e, r, e', R, by simpa [denCs] using h, P⟩
theorem tI_then {M : List Nat} {it : It} {α : Type} {f : List D → Envd → Rs α} {e : Envd} {H : Hp} {r : Except Exc α} {e' : Envd} {Q : L2.It → Hp → Prop} (R : SR A S e σ H) (h : bnd (denIt G it e) f = some (r, e'))
    (pe : ∀ y, r = .error y → ∀ cls dd H', Kp (CelAt A σ) H H' → SR A S e' σ H' → ExR A H' y cls dd → A.XW cls dd H')
    (next : ∀ ds e1 J H1, f ds e1 = some (r, e') → Kp (CelAt A σ) H H1 → SR A S e1 σ H1 → ItOk A S σ M J ds H1 → ds.length ≤ LIM → Q J H1) : tI G A M it σ H Q := by
  cases q : denIt G it e with
  | none => rw [q] at h; cases h
  | some o =>
    obtain ⟨r1, e1⟩ := o
    rw [q] at h
    cases r1 with
    | error y =>
      cases h
      exact ⟨S, e, .error y, _, R, q, pe y rfl⟩
    | ok d => exact ⟨S, e, .ok d, e1, R, q, fun v H1 k R1 x => next d e1 v H1 h k R1 x.1 x.2⟩
theorem compL_len {own : List Nat} {asg : D → Envd → Option Envd} {cond : Envd → Rs Bool} {elt : Envd → Rs D} : ∀ {ds : List D} {e e' : Envd} {xs : List D}, compL own asg cond elt ds e = some (xs, e') → xs.length ≤ ds.length
  | [], e, e', xs, h => by cases h; exact Nat.le_refl _
  | d :: ds, e, e', xs, h => by
    rw [compL] at h
    split at h
    · cases h
    · split at h
      · split at h
        · split at h
          · rename_i h2
            cases h
            have := compL_len h2
            simp only [List.length_cons]
            omega
          · cases h
        · cases h
      · have := compL_len h
        simp only [List.length_cons]
        omega
      · cases h
mutual
theorem asgT_len : ∀ {t : Tg} {d : D} {e e' : Envd}, asgT t d e = some e' → e'.length = e.length
  | .nm i, d, e, e', h => by cases h; rw [List.length_set]
  | .tp ts, .tup ds, e, e', h => asgTs_len2 (by simpa only [asgT] using h)
  | .tp ts, .non, _, _, h => by simp [asgT] at h
  | .tp ts, .bl _, _, _, h => by simp [asgT] at h
  | .tp ts, .int _, _, _, h => by simp [asgT] at h
  | .tp ts, .str _, _, _, h => by simp [asgT] at h
  | .tp ts, .lst _, _, _, h => by simp [asgT] at h
  | .tp ts, .dic _, _, _, h => by simp [asgT] at h
  | .tp ts, .fn _, _, _, h => by simp [asgT] at h
theorem asgTs_len2 : ∀ {ts : List Tg} {ds : List D} {e e' : Envd}, asgTs ts ds e = some e' → e'.length = e.length
  | [], [], _, _, h => by cases h; rfl
  | [], _ :: _, _, _, h => by cases h
  | _ :: _, [], _, _, h => by cases h
  | t :: ts, d :: ds, e, e', h => by
    unfold asgTs at h
    cases h1 : asgT t d e with
    | none => rw [h1] at h; cases h
    | some e1 => rw [h1] at h; rw [asgTs_len2 h, asgT_len h1]
end
/-- one address changed, no tuple -/
theorem kp_upd {H : Hp} {D : Addr} {o u : HO} (h : H D = some o) (nt : ∀ xs, o ≠ .tup xs) (nf : ∀ o' u', o ≠ .frz o' u') (nb : ∀ ps, o ≠ .tbl ps) (nc : ∀ c q, o ≠ LamX.CodeO c q) : Kp (fun a => a = D) H (upd H D u) :=
  ⟨fun a x e n _ => by rw [upd_ne n]; exact e, fun a xs e => by rw [upd_ne (fun z => by subst z; rw [h] at e; exact nt _ (Option.some.inj e))]; exact e,
    fun a e => by
      by_cases z : a = D
      · rw [z, upd_same]; exact fun q => nomatch q
      · rw [upd_ne z]; exact e,
    fun a o' u' e => by rw [upd_ne (fun z => by subst z; rw [h] at e; exact nf _ _ (Option.some.inj e))]; exact e,
    fun a ⟨ps, e, t, c⟩ => ⟨ps, by rw [upd_ne (fun z => by subst z; rw [h] at e; exact nb _ (Option.some.inj e))]; exact e, t, fun pos cv hc => by
      obtain ⟨c', e1, e2⟩ := c pos cv hc
      exact ⟨c', e1, by rw [upd_ne (fun z => by subst z; rw [h] at e2; exact nc _ _ (Option.some.inj e2))]; exact e2⟩⟩⟩
/-- the block, turn by turn -/
theorem comp_go {elt : E} {tg : Tg} {cs : Es} {own : List Nat} {J : L2.It} {ds xs : List D} {e1 e2 : Envd} {H1 : Hp} (hv : ∀ i ∈ own, A.ks[i]? = some .val) (ht : ∀ i ∈ tgS tg, i ∈ own) (hk : kdE C elt = .fr ∨ kdE C elt = .vl)
    (R : SR A S e1 σ H1) (ok : ItOk A S σ [] J ds H1) (hl : ds.length ≤ LIM) (h : compL own (asgT tg) (denCs G cs) (denE G elt) ds e1 = some (xs, e2)) {Q : VK}
    (P : ∀ D H', Kp (CelAt A σ) H1 H' → SR A (plusA S D) (backE e1 e2 own) σ H' → H1 D = none → Ob A.K (plusA S D) H' (.lst xs) D → Q (.ref D) H') :
    ∀ D, H1 D = none → ∃ W : Nat → Nat → Hp → Prop, (∃ m, W 0 m (upd H1 D (.lst []))) ∧ ∀ i m H, W i m H →
      (J.stop i H ∧ Q (.ref D) H) ∨ (J.go i H ∧ ∃ Nx : Hp → Prop, (∀ H', Nx H' → ∃ m', m' < m ∧ W (i + 1) m' H') ∧ ∀ x H', J.yld i H x H' → tG G A.blk tg x (L2.wipe σ own) H' fun σ2 H2 => L2.wipe σ2 own = L2.wipe σ own ∧ tC G A.blk cs σ2 H2 fun b H3 =>
        if b = true then tE (C := C) G A.blk elt σ2 H3 fun y H4 => ∃ acc, H4 D = some (.lst acc) ∧ acc.length < sizeLine ∧ Nx (upd H4 D (.lst (acc ++ [y]))) else Nx H3) := by
  intro D hD
  have no : ∀ i : Nat, Ownish A i → i ∉ own := fun i h z => not_ownish (hv i z) h
  have cw : ∀ a, CelAt A (L2.wipe σ own) a ↔ CelAt A σ a := celAt_congr fun i h => wipe_out (no i (.inr h))
  have ow : ∀ a, OwnAt A (L2.wipe σ own) a ↔ OwnAt A σ a := ownAt_congr fun i h => wipe_out (no i h)
  have Dn : ∀ a, CelAt A σ a → a ≠ D := fun a z e => R.celD a z (by rw [e]; exact hD)
  have DO : ¬ OwnAt A σ D := fun z => R.ownD D z hD
  have Db : ∀ a, A.bo a → ¬ a = D := fun a z e => (R.bo a z).1 (by rw [e]; exact hD)
  have W0 : A.H0 D = none := R.h0 hD
  refine ⟨fun i m H => ∃ ei acc accd xs', SR A (plusA S D) (wipeE ei own) (L2.wipe σ own) H ∧ compL own (asgT tg) (denCs G cs) (denE G elt) (ds.drop i) ei = some (xs', e2) ∧ H D = some (.lst acc) ∧ RepL A.K (plusA S D) H accd acc ∧ accd ++ xs' = xs ∧ i + m = ds.length ∧
    Kp (fun a => CelAt A σ a ∨ a = D) (upd H1 D (.lst [])) H, ⟨ds.length, e1, [], [], xs, (R.alloc hD (Ext.new hD) (by rw [upd_same]; exact fun z => nomatch z)).wipe hv, by simpa using h, upd_same, .nil, rfl, by omega, Kp.refl _ _⟩, ?_⟩
  rintro i m H ⟨ei, acc, accd, xs', Ri, hc, hDi, hr, hx, him, kp⟩
  have kp1 : Kp (fun a => CelAt A σ a ∨ a = D) H1 H := (Kp.ext (Ext.new hD)).trans kp
  have kp2 : Kp (CelAt A σ) H1 H := ⟨fun a o h n t => kp1.keep a o h (fun z => z.elim n fun e => (by rw [e, hD] at h; cases h)) t, kp1.tup, kp1.dom, kp1.frz, kp1.tbl⟩
  have kW : Kp (WM A σ []) H1 H := kp2.mono fun a z => .inl z
  have mh : Mh A S σ [] H1 (plusA S D) H := ⟨kW, fun a z => z.elim .inl fun e => .inr (by rw [e]; exact hD)⟩
  obtain ⟨go, stop⟩ := ok _ _ mh
  by_cases hi : i < ds.length
  · obtain ⟨d, hd⟩ : ∃ d, ds[i]? = some d := ⟨_, List.getElem?_eq_getElem hi⟩
    obtain ⟨g1, g2⟩ := go i d hd
    have dr : ds.drop i = d :: ds.drop (i + 1) := by
      rw [List.drop_eq_getElem_cons hi]
      rw [List.getElem?_eq_getElem hi] at hd
      cases hd
      rfl
    rw [dr, compL] at hc
    refine .inr ⟨g1, fun H' => ∃ ei acc accd xs', SR A (plusA S D) (wipeE ei own) (L2.wipe σ own) H' ∧ compL own (asgT tg) (denCs G cs) (denE G elt) (ds.drop (i + 1)) ei = some (xs', e2) ∧ H' D = some (.lst acc) ∧ RepL A.K (plusA S D) H' accd acc ∧ accd ++ xs' = xs ∧
      Kp (fun a => CelAt A σ a ∨ a = D) (upd H1 D (.lst [])) H', fun H' ⟨a1, a2, a3, a4, b1, b2, b3, b4, b5, b6⟩ => ⟨m - 1, by omega, a1, a2, a3, a4, b1, b2, b3, b4, b5, by omega, b6⟩, fun x H' y => ?_⟩
    obtain ⟨x1, rx⟩ := g2 x H' y
    cases ha : asgT tg d (wipeE ei own) with
    | none => rw [ha] at hc; cases hc
    | some ea =>
    rw [ha] at hc
    simp only at hc
    refine ⟨plusA S D, wipeE ei own, d, ea, (Ri.ext x1).blk, ha, rx, fun σ2 R2 o2 => ⟨?_, ?_⟩⟩
    · apply List.ext_getElem?
      intro j
      by_cases hj : j ∈ own
      · have l2 : σ2.length = σ.length := by rw [← R2.len, asgT_len ha, wipeE_len]; have := Ri.len; rw [wipeE_len, wipe_length] at this; exact this
        by_cases hjl : j < σ.length
        · rw [wipe_in hj hjl, wipe_in hj (by rw [l2]; exact hjl)]
        · rw [List.getElem?_eq_none_iff.mpr (by rw [wipe_length]; omega), List.getElem?_eq_none_iff.mpr (by rw [wipe_length]; omega)]
      · rw [wipe_out hj, o2 j fun z => hj (ht j z)]
    · have cs2 : ∀ a, CelAt A.blk σ2 a ↔ CelAt A σ a := fun a => by
        refine Iff.trans (celAt_congr (σ := L2.wipe σ own) (fun i h => o2 i fun z => no i (.inr h) (ht i z)) a) (cw a)
      have wsame : L2.wipe σ2 own = L2.wipe σ own := by
        apply List.ext_getElem?
        intro j
        by_cases hj : j ∈ own
        · have l2 : σ2.length = σ.length := by rw [← R2.len, asgT_len ha, wipeE_len]; have := Ri.len; rw [wipeE_len, wipe_length] at this; exact this
          by_cases hjl : j < σ.length
          · rw [wipe_in hj hjl, wipe_in hj (by rw [l2]; exact hjl)]
          · rw [List.getElem?_eq_none_iff.mpr (by rw [wipe_length]; omega), List.getElem?_eq_none_iff.mpr (by rw [wipe_length]; omega)]
        · rw [wipe_out hj, o2 j fun z => hj (ht j z)]
      have kp3 : Kp (fun a => CelAt A σ a ∨ a = D) (upd H1 D (.lst [])) H' := kp.trans (Kp.ext x1)
      have hD' : H' D = some (.lst acc) := x1 _ _ hDi
      have hr' : RepL A.K (plusA S D) H' accd acc := hr.kp (Kp.ext (W := fun _ => False) x1) fun _ z => z.elim
      have S1 : ∀ a, CelAt A σ a → plusA S D a := fun a z => .inl (R.celS a z)
      cases hcd : denCs G cs ea with
      | none => rw [hcd] at hc; cases hc
      | some o =>
      obtain ⟨rb, eb⟩ := o
      rw [hcd] at hc
      cases rb with
      | error y => cases hc
      | ok b =>
      refine ⟨plusA S D, ea, .ok b, eb, R2, hcd, ?_⟩
      intro b' H3 k3 R3 hb
      subst hb
      have k3 : Kp (CelAt A σ) H' H3 := k3.mono fun a z => (cs2 a).mp z
      have hD3 : H3 D = some (.lst acc) := k3.keep D _ hD' (fun z => Dn D z rfl) fun _ z => nomatch z
      have hr3 := hr'.kp k3 S1
      have kp4 : Kp (fun a => CelAt A σ a ∨ a = D) (upd H1 D (.lst [])) H3 := kp3.trans (k3.mono fun a z => .inl z)
      cases b' with
      | false =>
        rw [if_neg Bool.false_ne_true]
        refine ⟨eb, acc, accd, xs', ?_, hc, hD3, hr3, hx, kp4⟩
        have := R3.unblk.wipe hv
        rw [wsame] at this
        exact this
      | true =>
        rw [if_pos rfl]
        simp only at hc
        cases hel : denE G elt eb with
        | none => rw [hel] at hc; cases hc
        | some o =>
        obtain ⟨rx', ex⟩ := o
        rw [hel] at hc
        cases rx' with
        | error y => cases hc
        | ok xd =>
        simp only at hc
        cases hcl : compL own (asgT tg) (denCs G cs) (denE G elt) (ds.drop (i + 1)) ex with
        | none => rw [hcl] at hc; cases hc
        | some o =>
        obtain ⟨xs2, ez⟩ := o
        rw [hcl] at hc
        cases hc
        refine ⟨plusA S D, eb, .ok xd, ex, R3, hel, ?_⟩
        intro yv H4 k4 R4 vr
        have k4 : Kp (CelAt A σ) H3 H4 := k4.mono fun a z => (cs2 a).mp z
        have hD4 : H4 D = some (.lst acc) := k4.keep D _ hD3 (fun z => Dn D z rfl) fun _ z => nomatch z
        have hr4 := hr3.kp k4 S1
        have ry : Rep A.K (plusA S D) H4 xd yv := vr.rep R3.dom hk
        have lacc : acc.length < sizeLine := by
          have h1 := hr.length
          have h2 := congrArg List.length hx
          have h3 := compL_len h
          simp only [List.length_append, List.length_cons] at h2
          have h4 : LIM = sizeLine := rfl
          omega
        refine ⟨acc, hD4, lacc, ex, acc ++ [yv], accd ++ [xd], xs2, ?_, hcl, upd_same, ?_, by simpa using hx, ?_⟩
        · have kD : Kp (fun a => a = D) H4 (upd H4 D (.lst (acc ++ [yv]))) := kp_upd hD4 (fun xs z => nomatch z) (fun o u z => nomatch z) (fun _ z => nomatch z) fun _ _ z => by unfold LamX.CodeO at z; cases z
          have R5 : SR A (plusA S D) ex σ2 (upd H4 D (.lst (acc ++ [yv]))) := R4.unblk.other kD (fun a z => .inr z) (fun a z => by
            rw [z, ownAt_congr (σ := L2.wipe σ own) (A := A) (fun i h => o2 i fun z => no i h (ht i z)) D, ow D]; exact DO) Db (fun a z => by rw [z]; exact W0)
          have := R5.wipe hv
          rw [wsame] at this
          exact this
        · have kD : Kp (fun a => a = D) H4 (upd H4 D (.lst (acc ++ [yv]))) := kp_upd hD4 (fun xs z => nomatch z) (fun o u z => nomatch z) (fun _ z => nomatch z) fun _ _ z => by unfold LamX.CodeO at z; cases z
          exact (hr4.append (.cons ry .nil)).kp kD fun a z => .inr z
        · have kD : Kp (fun a => a = D) H4 (upd H4 D (.lst (acc ++ [yv]))) := kp_upd hD4 (fun xs z => nomatch z) (fun o u z => nomatch z) (fun _ z => nomatch z) fun _ _ z => by unfold LamX.CodeO at z; cases z
          exact (kp4.trans (k4.mono fun a z => .inl z)).trans (kD.mono fun a z => .inr z)
  · refine .inl ⟨stop i (by omega), ?_⟩
    rw [List.drop_eq_nil_of_le (by omega)] at hc
    cases hc
    rw [List.append_nil] at hx
    subst hx
    refine P D H kp2 ?_ hD ⟨acc, hDi, hr⟩
    -- back: the outer slots
    have len2 : e2.length = e1.length := by
      have h1 := Ri.len
      rw [wipeE_len, wipe_length] at h1
      rw [h1, R.len]
    refine Ri.move (by rw [backE_len, len2]; exact R.len) (fun i h => (wipe_out (no i h)).symm) (fun j h ho => ?_) fun j d h => ?_
    · by_cases z : j ∈ own
      · have hj : j < e2.length := by
          have := (List.getElem?_eq_some_iff.mp h).1
          rw [backE_len] at this
          exact this
        rw [backE_in z hj] at h
        have h : getV e1 j = none := Option.some.inj h
        refine R.non j ?_ ho
        have hj1 : j < e1.length := by rw [← len2]; exact hj
        unfold getV at h
        rw [List.getElem?_eq_getElem hj1] at h ⊢
        simp only at h
        rw [h]
      · rw [backE_out z] at h
        have := Ri.non j (by rw [wipeE_out z]; exact h) ho
        rw [wipe_out z] at this
        exact this
    · by_cases z : j ∈ own
      · have hj : j < e2.length := by
          have := (List.getElem?_eq_some_iff.mp h).1
          rw [backE_len] at this
          exact this
        rw [backE_in z hj] at h
        have h : getV e1 j = some d := Option.some.inj h
        obtain ⟨v, h1, h2⟩ := R.getV h
        refine ⟨v, h1, ?_⟩
        have kv := hv j z
        rw [kv] at h2 ⊢
        exact mh.rep R.wmS (show Rep A.K S H1 d v from h2)
      · rw [backE_out z] at h
        obtain ⟨v, h1, h2⟩ := Ri.slot j d (by rw [wipeE_out z]; exact h)
        rw [wipe_out z] at h1
        exact ⟨v, h1, h2⟩
end Rf

set_option maxRecDepth 100000
set_option maxHeartbeats 1000000
/-! Rf15: comprehensions as values; new lists and dicts; other views of the slots. -/
namespace Rf
open PySem PySem.Spec PyProof.Rows L2
variable [TN]
variable {X : Cx} {C : Cfg} {G : Gam} {A : Ac} {S : AS} {σ : L2.St} {pos : Pos}

/-- fewer addresses to keep away from -/
theorem SR.shrink {e : Envd} {H : Hp} {S' : AS} (R : SR A S e σ H) (m : ∀ a, S' a → S a) (h0 : ∀ a, A.S0 a → S' a) (ho : ∀ a, OwnAt A σ a → S' a) : SR A S' e σ H where
  len := R.len
  s0 := h0
  s0h := R.s0h
  dom := fun a h => R.dom a (m a h)
  new := fun a h => R.new a (m a h)
  wp := R.wp
  fr := R.fr
  non := R.non
  slot := fun i d h => by
    obtain ⟨v, h1, h2⟩ := R.slot i d h
    refine ⟨v, h1, ?_⟩
    cases k : A.ks[i]? with
    | none => rw [k] at h2; exact h2.elim
    | some sk =>
      rw [k] at h2
      cases sk with
      | val => exact Rep.avoid (fun b z => .inl (m b z)) h2
      | bor => exact Vw.avoid (fun b z => .inl (m b z)) h2
      | own => obtain ⟨a, rfl, e2, e3, e4⟩ := h2; exact ⟨a, rfl, ho a ⟨i, .inl k, h1⟩, e3, e4.avoid fun b z => .inl (m b z)⟩
      | cel => obtain ⟨a, rfl, e2, e3, e4⟩ := h2; exact ⟨a, rfl, ho a ⟨i, .inr k, h1⟩, e3, e4.avoid fun b z => .inl (m b z)⟩
  dist := R.dist
  bo := R.bo
  pc := R.pc
theorem SR.unplus {e e1 : Envd} {H H1 : Hp} {D : Addr} (R : SR A S e σ H) (R1 : SR A (plusA S D) e1 σ H1) : SR A S e1 σ H1 := R1.shrink (fun a z => .inl z) R.s0 fun a z => R.ownS a z

def notSetD : Expr → Bool
  | .Set _ _ _ => false
  | _ => true
theorem folded_of {e : Expr} {env : Env} (h : notSetD e = true) : ∀ x, foldedSetIterable e env x = pure x := by
  intro x
  cases e <;> first | rfl | cases h
/-- what a new list or dict in a slot of one's own is to reach -/
def PostX (A : Ac) (S : AS) (σ : L2.St) (H : Hp) (Q : VK) (r : Except Exc D) (e' : Envd) : Prop :=
  match r with
  | .ok d => ∀ p H', Kp (CelAt A σ) H H' → H p = none → SR A (plusA S p) e' σ H' → Ob A.K (plusA S p) H' d p → Q (.ref p) H'
  | .error x => ∀ cls dd H', Kp (CelAt A σ) H H' → SR A S e' σ H' → ExR A H' x cls dd → A.XW cls dd H'
/-- a new list or dict, by nobody else held -/
def tX (G : Gam) (A : Ac) (x : E) : TE := fun σ H Q => ∃ S e r e', SR A S e σ H ∧ denE G x e = some (r, e') ∧ (∀ d, r = .ok d → isOb d = true) ∧ PostX A S σ H Q r e'
theorem comp_X {elt : E} {tg : Tg} {it : It} {cs : Es} {own : List Nat} (hv : ∀ i ∈ own, A.ks[i]? = some .val) (ht : ∀ i ∈ tgS tg, i ∈ own) (hk : kdE C elt = .fr ∨ kdE C elt = .vl) {σ : L2.St} {H : Hp} {Q : VK}
    (h : tX G A (.comp elt tg it cs own) σ H Q) : tLc (tI G A [] it) (tG G A.blk tg) (tC G A.blk cs) (tE (C := C) G A.blk elt) own σ H Q := by
  obtain ⟨S, e, r, e', R, h, ob, P⟩ := h
  refine tI_then R (by simpa only [denE] using h) (fun y hy => by subst hy; exact P) fun ds e1 J H1 h1 k1 R1 ok hl => ?_
  cases hc : compL own (asgT tg) (denCs G cs) (denE G elt) ds e1 with
  | none => rw [hc] at h1; cases h1
  | some o =>
    obtain ⟨xs, e2⟩ := o
    rw [hc] at h1
    cases h1
    exact comp_go hv ht hk R1 ok hl hc fun D H' k2 R2 hn ob => P D H' (k1.trans k2) (by
      cases q : H D with
      | none => rfl
      | some o => exact absurd hn (k1.dom D (by rw [q]; exact fun z => nomatch z))) R2 ob
/-- as a plain value -/
theorem X_of_V {x : E} (hob : ∀ e d e', denE G x e = some (.ok d, e') → isOb d = true) (hk : kdE C x = .fo ∨ (kdE C x = .fr ∧ ∀ e d e', denE G x e = some (.ok d, e') → isDic d = false)) {σ : L2.St} {H : Hp} {Q : VK} (h : tE (C := C) G A x σ H Q) : tX G A x σ H Q := by
  obtain ⟨S, e, r, e', R, h, P⟩ := h
  refine ⟨S, e, r, e', R, h, fun d hd => hob e d e' (by rw [← hd]; exact h), ?_⟩
  cases r with
  | error y => exact P
  | ok d =>
    intro p H' k hn R' ob
    refine P (.ref p) H' k (R.unplus R') ?_
    have fr : Fr A.K S H H' d (.ref p) := by
      cases d with
      | lst ds => exact ⟨p, rfl, hn, ob⟩
      | dic ds => exact ⟨p, rfl, hn, ob⟩
      | fn q => exact absurd (hob e _ e' h) (by intro z; cases z)
      | _ => exact ob.elim
    rcases hk with hk | ⟨hk, hd⟩
    · rw [hk]; exact fr
    · rw [hk]; exact ⟨fr, hd e d e' h⟩
theorem comp_ob {elt : E} {tg : Tg} {it : It} {cs : Es} {own : List Nat} : ∀ e d e', denE G (.comp elt tg it cs own) e = some (.ok d, e') → ∃ ds, d = .lst ds := by
  intro e d e' h
  simp only [denE] at h
  cases h1 : denIt G it e with
  | none => rw [h1] at h; cases h
  | some o =>
    obtain ⟨r, e1⟩ := o
    rw [h1] at h
    cases r with
    | error y => cases h
    | ok ds =>
      simp only [bnd_ok] at h
      split at h
      · cases h; exact ⟨_, rfl⟩
      · cases h
theorem sX_comp {eltx tgx iter : Expr} {ifs : List Expr} {scope : Scope} {own : List (Str × Nat)} {elt : E} {tg : Tg} {it : It} {cs : Es} (hc : X.calm = true) (hN : X.N.Nodup) (hi : PI X tgx iter (tI G A [] it)) (ok : BlkOk X.N X.env.scope scope own)
    (hv : ∀ i ∈ own.map (·.2), A.ks[i]? = some .val) (ht : ∀ i ∈ tgS tg, i ∈ own.map (·.2)) (hk : kdE C elt = .fr ∨ kdE C elt = .vl)
    (hg : ∀ (s : Shared) (H : Hp) (D : Addr) (cl : List (Str × Addr)) (fp : List Addr), PG (X.blk s H scope (compEnvC scope cl D X.env) fp) tgx (tG G A.blk tg)) (hts : ∀ (s : Shared) (H : Hp) (D : Addr) (cl : List (Str × Addr)) (fp : List Addr), PTs (X.blk s H scope (compEnvC scope cl D X.env) fp) ifs (tC G A.blk cs))
    (he : ∀ (s : Shared) (H : Hp) (D : Addr) (cl : List (Str × Addr)) (fp : List Addr), PE (X.blk s H scope (compEnvC scope cl D X.env) fp) eltx (tE (C := C) G A.blk elt)) (hs : notSetD iter = true) :
    PE X (.ListComp eltx [⟨tgx, iter, ifs, 0⟩] scope pos) (tX G A (.comp elt tg it cs (own.map (·.2)))) :=
  (pe_lc hc hN hi ok hg hts he (folded_of hs)).weak fun σ H Q h => comp_X hv ht hk h
theorem sE_comp {eltx tgx iter : Expr} {ifs : List Expr} {scope : Scope} {own : List (Str × Nat)} {elt : E} {tg : Tg} {it : It} {cs : Es} (hc : X.calm = true) (hN : X.N.Nodup) (hi : PI X tgx iter (tI G A [] it)) (ok : BlkOk X.N X.env.scope scope own)
    (hv : ∀ i ∈ own.map (·.2), A.ks[i]? = some .val) (ht : ∀ i ∈ tgS tg, i ∈ own.map (·.2)) (hk : kdE C elt = .fr ∨ kdE C elt = .vl)
    (hg : ∀ (s : Shared) (H : Hp) (D : Addr) (cl : List (Str × Addr)) (fp : List Addr), PG (X.blk s H scope (compEnvC scope cl D X.env) fp) tgx (tG G A.blk tg)) (hts : ∀ (s : Shared) (H : Hp) (D : Addr) (cl : List (Str × Addr)) (fp : List Addr), PTs (X.blk s H scope (compEnvC scope cl D X.env) fp) ifs (tC G A.blk cs))
    (he : ∀ (s : Shared) (H : Hp) (D : Addr) (cl : List (Str × Addr)) (fp : List Addr), PE (X.blk s H scope (compEnvC scope cl D X.env) fp) eltx (tE (C := C) G A.blk elt)) (hs : notSetD iter = true) :
    PE X (.ListComp eltx [⟨tgx, iter, ifs, 0⟩] scope pos) (tE (C := C) G A (.comp elt tg it cs (own.map (·.2)))) :=
  (sX_comp hc hN hi ok hv ht hk hg hts he hs).weak fun σ H Q h => X_of_V (fun e d e' h => by obtain ⟨ds, rfl⟩ := comp_ob e d e' h; rfl) (.inr ⟨rfl, fun e d e' h => by obtain ⟨ds, rfl⟩ := comp_ob e d e' h; rfl⟩) h

/-! ### other views of the slots -/
/-- nothing is changed: the slots that calls may change are just looked at; the lists of Z are shared data -/
def gP (Z : List Nat) (i : Nat) : SK → SK
  | .cel => .bor
  | .own => if Z.contains i then .val else .own
  | k => k
/-- the lists of Z are shared data from now on -/
def gF (Z : List Nat) (i : Nat) : SK → SK
  | .own => if Z.contains i then .val else .own
  | k => k
def Cfg.pv (C : Cfg) (Z : List Nat) : Cfg := { C with ks := C.ks.mapIdx (gP Z) }
def Cfg.fz (C : Cfg) (Z : List Nat) : Cfg := { C with ks := C.ks.mapIdx (gF Z) }
def Ac.pv (A : Ac) (Z : List Nat) (bo : AS) : Ac := { A with ks := A.ks.mapIdx (gP Z), pcs := [], bo := bo }
def Ac.fz (A : Ac) (Z : List Nat) : Ac := { A with ks := A.ks.mapIdx (gF Z) }
/-- the addresses of Z -/
def ZAt (A : Ac) (σ : L2.St) (Z : List Nat) : AS := fun a => ∃ i ∈ Z, A.ks[i]? = some .own ∧ σ[i]? = some (some (V.ref a))
theorem lstsE_of {e : Envd} {Z : List Nat} (h : lstsE e Z = true) {i : Nat} (hi : i ∈ Z) {d : D} (hd : e[i]? = some (some d)) : ∃ ds, d = .lst ds := by
  have h1 := List.all_eq_true.mp h i hi
  have h2 : getV e i = some d := by unfold getV; rw [hd]
  rw [h2] at h1
  cases d <;> first | exact ⟨_, rfl⟩ | cases h1
theorem pv_at {Z : List Nat} {bo : AS} {i : Nat} : (A.pv Z bo).ks[i]? = (A.ks[i]?).map (gP Z i) := List.getElem?_mapIdx
theorem fz_at {Z : List Nat} {i : Nat} : (A.fz Z).ks[i]? = (A.ks[i]?).map (gF Z i) := List.getElem?_mapIdx
theorem pv_nocel {Z : List Nat} {bo : AS} (a : Addr) : ¬ CelAt (A.pv Z bo) σ a := by
  rintro ⟨i, h1, _⟩
  rw [pv_at] at h1
  cases q : A.ks[i]? with
  | none => rw [q] at h1; cases h1
  | some k =>
    rw [q] at h1
    cases k with
    | own =>
      simp only [Option.map_some, gP] at h1
      split at h1 <;> cases h1
    | _ => cases h1
theorem pv_own {Z : List Nat} {bo : AS} {i : Nat} (h : Ownish (A.pv Z bo) i) : A.ks[i]? = some .own ∧ i ∉ Z := by
  unfold Ownish at h
  rw [pv_at] at h
  cases q : A.ks[i]? with
  | none => rw [q] at h; rcases h with h | h <;> cases h
  | some k =>
    rw [q] at h
    cases k with
    | own =>
      refine ⟨rfl, fun z => ?_⟩
      simp only [Option.map_some, gP, List.contains_iff_mem.mpr z, if_true] at h
      rcases h with h | h <;> cases h
    | _ => rcases h with h | h <;> cases h
theorem fz_own {Z : List Nat} {i : Nat} (h : Ownish (A.fz Z) i) : Ownish A i ∧ (A.ks[i]? = some .own → i ∉ Z) := by
  unfold Ownish at h ⊢
  rw [fz_at] at h
  cases q : A.ks[i]? with
  | none => rw [q] at h; rcases h with h | h <;> cases h
  | some k =>
    rw [q] at h
    cases k with
    | own =>
      refine ⟨.inl rfl, fun _ z => ?_⟩
      simp only [Option.map_some, gF, List.contains_iff_mem.mpr z, if_true] at h
      rcases h with h | h <;> cases h
    | cel => exact ⟨.inr rfl, fun z => by cases z⟩
    | _ => rcases h with h | h <;> cases h
theorem SR.zS {e : Envd} {H : Hp} {Z : List Nat} (R : SR A S e σ H) (a : Addr) (h : A.S0 a) : ¬ ZAt A σ Z a := by
  rintro ⟨i, hi, h1, h2⟩
  obtain ⟨d, h3, h4⟩ := R.at (.inl h1) h2
  rw [h1] at h4
  obtain ⟨b, e1, _, e3, _⟩ := h4
  cases e1
  exact R.s0h a h e3
theorem SR.pv {e : Envd} {H : Hp} {Z : List Nat} (R : SR A S e σ H) (hz : lstsE e Z = true) : SR (A.pv Z fun a => A.bo a ∨ CelAt A σ a) (fun a => S a ∧ ¬ ZAt A σ Z a) e σ H where
  len := R.len
  s0 := fun a h => ⟨R.s0 a h, R.zS a h⟩
  s0h := R.s0h
  dom := fun a h => R.dom a h.1
  new := fun a h => R.new a h.1
  wp := R.wp
  fr := R.fr
  non := fun i h ho => R.non i h (.inl (pv_own ho).1)
  slot := fun i d h => by
    obtain ⟨v, h1, h2⟩ := R.slot i d h
    refine ⟨v, h1, ?_⟩
    have m : ∀ b, (S b ∧ ¬ ZAt A σ Z b) → S b ∨ H b = none := fun b z => .inl z.1
    rw [pv_at]
    cases k : A.ks[i]? with
    | none => rw [k] at h2; exact h2.elim
    | some sk =>
      rw [k] at h2
      cases sk with
      | val => exact Rep.avoid m h2
      | bor =>
        rcases h2 with z | ⟨a, e1, n, o⟩
        · exact .inl (z.avoid m)
        · exact .inr ⟨a, e1, fun z => z (.inl (Classical.not_not.mp n)), o.avoid m⟩
      | cel =>
        obtain ⟨a, rfl, e2, e3, e4⟩ := h2
        exact .inr ⟨a, rfl, fun z => z (.inr ⟨i, k, h1⟩), e4.avoid m⟩
      | own =>
        obtain ⟨a, rfl, e2, e3, e4⟩ := h2
        by_cases hi : i ∈ Z
        · simp only [Option.map_some, gP, List.contains_iff_mem.mpr hi, if_true]
          obtain ⟨ds, rfl⟩ := lstsE_of hz hi h
          obtain ⟨xs, q1, q2⟩ := e4
          exact .lst (.inl ⟨fun z => z.2 ⟨i, hi, k, h1⟩, .inl q1⟩) (q2.avoid m)
        · have hc : Z.contains i = false := by
            cases q : Z.contains i with
            | false => rfl
            | true => exact absurd (List.contains_iff_mem.mp q) hi
          simp only [Option.map_some, gP, hc, Bool.false_eq_true, if_false]
          refine ⟨a, rfl, ⟨e2, fun ⟨j, hj, z1, z2⟩ => ?_⟩, e3, e4.avoid m⟩
          exact R.dist i j a (fun z => hi (z ▸ hj)) (.inl k) (.inl z1) h1 z2
  dist := fun i j a hij hi hj h1 h2 => R.dist i j a hij (.inl (pv_own hi).1) (.inl (pv_own hj).1) h1 h2
  bo := fun a h => by
    rcases h with h | h
    · exact ⟨(R.bo a h).1, fun ⟨i, z1, z2⟩ => (R.bo a h).2 ⟨i, .inl (pv_own z1).1, z2⟩⟩
    · refine ⟨R.celD a h, fun ⟨i, z1, z2⟩ => ?_⟩
      obtain ⟨j, hj, h2⟩ := h
      have ki := (pv_own z1).1
      exact R.dist i j a (fun z => by subst z; rw [ki] at hj; cases hj) (.inl ki) (.inr hj) z2 h2
  pc := fun p hp => nomatch hp
theorem SR.fz {e : Envd} {H : Hp} {Z : List Nat} (R : SR A S e σ H) (hz : lstsE e Z = true) : SR (A.fz Z) (fun a => S a ∧ ¬ ZAt A σ Z a) e σ H where
  len := R.len
  s0 := fun a h => ⟨R.s0 a h, R.zS a h⟩
  s0h := R.s0h
  dom := fun a h => R.dom a h.1
  new := fun a h => R.new a h.1
  wp := R.wp
  fr := R.fr
  non := fun i h ho => R.non i h (fz_own ho).1
  slot := fun i d h => by
    obtain ⟨v, h1, h2⟩ := R.slot i d h
    refine ⟨v, h1, ?_⟩
    have m : ∀ b, (S b ∧ ¬ ZAt A σ Z b) → S b ∨ H b = none := fun b z => .inl z.1
    rw [fz_at]
    cases k : A.ks[i]? with
    | none => rw [k] at h2; exact h2.elim
    | some sk =>
      rw [k] at h2
      cases sk with
      | val => exact Rep.avoid m h2
      | bor => exact Vw.avoid m h2
      | cel =>
        obtain ⟨a, rfl, e2, e3, e4⟩ := h2
        refine ⟨a, rfl, ⟨e2, fun ⟨j, hj, z1, z2⟩ => ?_⟩, e3, e4.avoid m⟩
        exact R.dist i j a (fun z => by subst z; rw [k] at z1; cases z1) (.inr k) (.inl z1) h1 z2
      | own =>
        obtain ⟨a, rfl, e2, e3, e4⟩ := h2
        by_cases hi : i ∈ Z
        · simp only [Option.map_some, gF, List.contains_iff_mem.mpr hi, if_true]
          obtain ⟨ds, rfl⟩ := lstsE_of hz hi h
          obtain ⟨xs, q1, q2⟩ := e4
          exact .lst (.inl ⟨fun z => z.2 ⟨i, hi, k, h1⟩, .inl q1⟩) (q2.avoid m)
        · have hc : Z.contains i = false := by
            cases q : Z.contains i with
            | false => rfl
            | true => exact absurd (List.contains_iff_mem.mp q) hi
          simp only [Option.map_some, gF, hc, Bool.false_eq_true, if_false]
          refine ⟨a, rfl, ⟨e2, fun ⟨j, hj, z1, z2⟩ => ?_⟩, e3, e4.avoid m⟩
          exact R.dist i j a (fun z => hi (z ▸ hj)) (.inl k) (.inl z1) h1 z2
  dist := fun i j a hij hi hj h1 h2 => R.dist i j a hij (fz_own hi).1 (fz_own hj).1 h1 h2
  bo := fun a h => ⟨(R.bo a h).1, fun ⟨i, z1, z2⟩ => (R.bo a h).2 ⟨i, (fz_own z1).1, z2⟩⟩
  pc := fun p hp => by
    obtain ⟨h1, h2⟩ := R.pc p hp
    refine ⟨?_, h2⟩
    rw [fz_at, h1]
    rfl
end Rf

set_option maxRecDepth 100000
set_option maxHeartbeats 1000000
/-! Rf16: statements. -/
namespace Rf
open PySem PySem.Spec PyProof.Rows L2
variable [TN]
variable {X : Cx} {C : Cfg} {G : Gam} {A : Ac} {S : AS} {σ : L2.St} {pos : Pos}

/-- from one state to another, with no more than M of one's own changed -/
structure Mv (A : Ac) (M : List Nat) (S : AS) (σ : L2.St) (H : Hp) (S' : AS) (σ' : L2.St) (H' : Hp) : Prop where
  kp : Kp (WM A σ M) H H'
  new : ∀ a, S' a → S a ∨ H a = none
  own : ∀ (i : Nat) (a : Addr), Ownish A i → σ'[i]? = some (some (V.ref a)) → σ[i]? = some (some (V.ref a)) ∨ H a = none
  same : ∀ i : Nat, Ownish A i → i ∉ M → σ'[i]? = σ[i]?
theorem WM.mono {M M' : List Nat} (h : ∀ i, i ∈ M → i ∈ M') (a : Addr) (z : WM A σ M a) : WM A σ M' a :=
  z.elim .inl fun ⟨i, h1, h2⟩ => .inr ⟨i, h i h1, h2⟩
theorem Mv.mono {M M' : List Nat} {H H' : Hp} {S' : AS} {σ' : L2.St} (h : ∀ i, i ∈ M → i ∈ M') (m : Mv A M S σ H S' σ' H') : Mv A M' S σ H S' σ' H' :=
  ⟨m.kp.mono (WM.mono h), m.new, m.own, fun i a b => m.same i a fun z => b (h i z)⟩
theorem Mv.refl {M : List Nat} {H : Hp} : Mv A M S σ H S σ H := ⟨Kp.refl _ _, fun a z => .inl z, fun i a _ z => .inl z, fun _ _ _ => rfl⟩
theorem WM.back {M : List Nat} {H : Hp} {σ' : L2.St} (ho : ∀ (i : Nat) (a : Addr), Ownish A i → σ'[i]? = some (some (V.ref a)) → σ[i]? = some (some (V.ref a)) ∨ H a = none) {a : Addr} (z : WM A σ' M a) : WM A σ M a ∨ H a = none := by
  rcases z with ⟨i, h1, h2⟩ | ⟨i, hi, h1, h2⟩
  · exact (ho i a (.inr h1) h2).imp (fun q => .inl ⟨i, h1, q⟩) id
  · exact (ho i a (.inl h1) h2).imp (fun q => .inr ⟨i, hi, h1, q⟩) id
theorem none_back {W : AS} {H H' : Hp} (k : Kp W H H') {a : Addr} (h : H' a = none) : H a = none := by
  cases q : H a with
  | none => rfl
  | some o => exact absurd h (k.dom a (by rw [q]; exact fun z => nomatch z))
theorem Mv.trans {M : List Nat} {H H1 H2 : Hp} {S1 S2 : AS} {σ1 σ2 : L2.St} (a : Mv A M S σ H S1 σ1 H1) (b : Mv A M S1 σ1 H1 S2 σ2 H2) : Mv A M S σ H S2 σ2 H2 where
  kp := ⟨fun x o h n t => b.kp.keep x o (a.kp.keep x o h n t) (fun z => (WM.back a.own z).elim n fun q => (by rw [q] at h; cases h)) t, fun x xs h => b.kp.tup x xs (a.kp.tup x xs h), fun x h => b.kp.dom x (a.kp.dom x h), fun x o u h => b.kp.frz x o u (a.kp.frz x o u h), fun x h => b.kp.tbl x (a.kp.tbl x h)⟩
  new := fun x h => (b.new x h).elim (a.new x) fun q => .inr (none_back a.kp q)
  own := fun i x h q => (b.own i x h q).elim (a.own i x h) fun q => .inr (none_back a.kp q)
  same := fun i h n => (b.same i h n).trans (a.same i h n)
/-- no statement, just an expression -/
theorem Mv.ofE {M : List Nat} {H H' : Hp} (k : Kp (CelAt A σ) H H') : Mv A M S σ H S σ H' := ⟨k.mono fun a z => .inl z, fun a z => .inl z, fun i a _ z => .inl z, fun _ _ _ => rfl⟩
theorem Mv.mh {M : List Nat} {H H' : Hp} {S' : AS} {σ' : L2.St} (m : Mv A M S σ H S' σ' H') : Mh A S σ M H S' H' := ⟨m.kp, m.new⟩
/-- the places handed in, at an end -/
def EndR (A : Ac) (e' : Envd) (H' : Hp) : Prop := Kp A.Wp A.H0 H' ∧ ∀ p ∈ A.pcs, ∃ k, getV e' p.1 = some k ∧ Ob A.K A.S0 H' k p.2
theorem SR.endR {e : Envd} {H : Hp} (R : SR A S e σ H) : EndR A e H := by
  refine ⟨R.fr, fun p hp => ?_⟩
  obtain ⟨h1, h2⟩ := R.pc p hp
  obtain ⟨d, h3, h4⟩ := R.at (.inr h1) h2
  rw [h1] at h4
  obtain ⟨a, e1, _, _, ob⟩ := h4
  cases e1
  exact ⟨d, by unfold Rf.getV; rw [h3], ob.avoid fun b z => .inl (R.s0 b z)⟩
def PostS (C : Cfg) (A : Ac) (M : List Nat) (S : AS) (σ : L2.St) (H : Hp) (D : L2.Ends) (r : Except Exc Fl) (e' : Envd) : Prop :=
  match r with
  | .ok .nx => ∀ S' σ' H', Mv A M S σ H S' σ' H' → SR A S' e' σ' H' → D.nx σ' H'
  | .ok .bk => ∀ S' σ' H', Mv A M S σ H S' σ' H' → SR A S' e' σ' H' → D.bk σ' H'
  | .ok .ct => ∀ S' σ' H', Mv A M S σ H S' σ' H' → SR A S' e' σ' H' → D.ct σ' H'
  | .ok (.rt d) => ∀ v H', EndR A e' H' → ResR A.K A.S0 C.ret A.H0 H' d v → D.rt v H'
  | .error x => ∀ cls dd H', EndR A e' H' → ExR A H' x cls dd → A.XW cls dd H'
mutual
def mutS : Sm → List Nat
  | .setO i _ => [i] | .setC i _ => [i]
  | .par ps => (ps.filter (·.2.1)).map (·.1)
  | .ext i _ => [i] | .app i _ => [i] | .ins i _ _ => [i] | .rem i _ => [i] | .stx i _ _ => [i]
  | .ifs _ a b => mutSs a ++ mutSs b
  | .ifz _ _ a b => mutSs a ++ mutSs b
  | .fr _ _ b => mutSs b
  | .wh _ b => mutSs b
  | _ => []
def mutSs : List Sm → List Nat
  | [] => []
  | s :: ss => mutS s ++ mutSs ss
end
def tS (C : Cfg) (G : Gam) (A : Ac) (s : Sm) : TS := fun D σ H => ∃ S e r e', SR A S e σ H ∧ denS G s e = some (r, e') ∧ PostS C A (mutS s) S σ H D r e'
def tSs (C : Cfg) (G : Gam) (A : Ac) (s : List Sm) : TS := fun D σ H => ∃ S e r e', SR A S e σ H ∧ denSs G s e = some (r, e') ∧ PostS C A (mutSs s) S σ H D r e'
theorem PostS.mono {M M' : List Nat} {H : Hp} {D : L2.Ends} {r : Except Exc Fl} {e' : Envd} (h : ∀ i, i ∈ M → i ∈ M') (P : PostS C A M' S σ H D r e') : PostS C A M S σ H D r e' := by
  cases r with
  | error x => exact P
  | ok f =>
    cases f with
    | rt d => exact P
    | _ => exact fun S' σ' H' m R => P S' σ' H' (m.mono h) R
theorem PostS.shift {M : List Nat} {H H1 : Hp} {S1 : AS} {σ1 : L2.St} {D : L2.Ends} {r : Except Exc Fl} {e' : Envd} (m : Mv A M S σ H S1 σ1 H1) (P : PostS C A M S σ H D r e') : PostS C A M S1 σ1 H1 D r e' := by
  cases r with
  | error x => exact P
  | ok f =>
    cases f with
    | rt d => exact P
    | _ => exact fun S' σ' H' m' R => P S' σ' H' (m.trans m') R
theorem PostS.err {M : List Nat} {H : Hp} {D : L2.Ends} {r : Except Exc Fl} {e' : Envd} (P : PostS C A M S σ H D r e') : ∀ y, r = .error y → ∀ {S2 : AS} {σ2 : L2.St} (cls : Value) (dd : Option Addr) (H' : Hp), SR A S2 e' σ2 H' → ExR A H' y cls dd → A.XW cls dd H' := by
  intro y hr S2 σ2 cls dd H' R
  subst hr
  exact P cls dd H' R.endR
theorem PostS.errE {M : List Nat} {H : Hp} {D : L2.Ends} {r : Except Exc Fl} {e' : Envd} (P : PostS C A M S σ H D r e') {H1 : Hp} : ∀ y, r = .error y → ∀ cls dd H', Kp (CelAt A σ) H1 H' → SR A S e' σ H' → ExR A H' y cls dd → A.XW cls dd H' :=
  fun y hr cls dd H' _ R x => P.err y hr cls dd H' R x

/-! ### one after another -/
theorem sS_nil : PSs X [] (tSs C G A []) := pss_nil.weak fun D σ H ⟨S, e, r, e', R, h, P⟩ => by
  rw [denSs] at h
  cases h
  exact P S σ H .refl R
theorem sS_cons {st : Stmt} {rest : List Stmt} {s : Sm} {ss : List Sm} (h1 : PS X st (tS C G A s)) (h2 : PSs X rest (tSs C G A ss)) : PSs X (st :: rest) (tSs C G A (s :: ss)) :=
  (pss_cons h1 h2).weak fun D σ H ⟨S, e, r, e', R, h, P⟩ => by
    rw [denSs] at h
    have inl : ∀ i, i ∈ mutS s → i ∈ mutSs (s :: ss) := fun i z => by rw [mutSs]; exact List.mem_append_left _ z
    have inr : ∀ i, i ∈ mutSs ss → i ∈ mutSs (s :: ss) := fun i z => by rw [mutSs]; exact List.mem_append_right _ z
    cases q : denS G s e with
    | none => rw [q] at h; cases h
    | some o =>
      obtain ⟨r1, e1⟩ := o
      rw [q] at h
      refine ⟨S, e, r1, e1, R, q, ?_⟩
      cases r1 with
      | error y => cases h; exact P
      | ok f =>
        cases f with
        | nx =>
          intro S1 σ1 H1 m R1
          exact ⟨S1, e1, r, e', R1, h, (P.shift (m.mono inl)).mono inr⟩
        | rt d => cases h; exact P
        | bk => cases h; exact fun S1 σ1 H1 m R1 => P S1 σ1 H1 (m.mono inl) R1
        | ct => cases h; exact fun S1 σ1 H1 m R1 => P S1 σ1 H1 (m.mono inl) R1
theorem sS_pass : PS X (.Pass pos) (tS C G A .pass) := ps_pass.weak fun D σ H ⟨S, e, r, e', R, h, P⟩ => by
  rw [denS] at h
  cases h
  exact P S σ H .refl R
theorem sS_brk : PS X (.Break pos) (tS C G A .brk) := ps_break.weak fun D σ H ⟨S, e, r, e', R, h, P⟩ => by
  rw [denS] at h
  cases h
  exact P S σ H .refl R
theorem sS_cnt : PS X (.Continue pos) (tS C G A .cnt) := ps_continue.weak fun D σ H ⟨S, e, r, e', R, h, P⟩ => by
  rw [denS] at h
  cases h
  exact P S σ H .refl R
theorem sS_ex {a : Expr} {x : E} (ha : PE X a (tE (C := C) G A x)) (hs : swapsWith a none pos.line X.env = pure false) : PS X (.Expr a pos) (tS C G A (.ex x)) := (ps_expr ha hs).weak fun D σ H ⟨S, e, r, e', R, h, P⟩ => by
  refine tE_then R (by simpa only [denS] using h) P.errE fun d e1 v H1 h1 k1 R1 v1 => ?_
  cases h1
  exact P S σ H1 (.ofE k1) R1
theorem set_go {i : Nat} {x : E} {D : L2.Ends} {H : Hp} (hv : A.ks[i]? = some .val) (hk : kdE C x = .fr ∨ kdE C x = .vl) (h : tS C G A (.set i x) D σ H) : tE (C := C) G A x σ H fun v H1 => D.nx (σ.set i (some v)) H1 := by
  obtain ⟨S, e, r, e', R, h, P⟩ := h
  refine tE_then R (by simpa only [denS] using h) P.errE fun d e1 v H1 h1 k1 R1 v1 => ?_
  cases h1
  refine P S _ H1 ⟨(k1.mono fun a z => .inl z), fun a z => .inl z, fun j a hj z => ?_, fun j hj _ => ?_⟩ (R1.setVal hv (v1.rep R.dom hk))
  · rw [List.getElem?_set_ne (fun q => by subst q; exact not_ownish hv hj)] at z
    exact .inl z
  · exact List.getElem?_set_ne fun q => by subst q; exact not_ownish hv hj
theorem sS_set {i : Nat} {n : Str} {a : Expr} {x : E} {p : Pos} (hv : A.ks[i]? = some .val) (hk : kdE C x = .fr ∨ kdE C x = .vl) (hN : X.N.Nodup) (hi : X.N[i]? = some n) (hx : Loc X.env.scope n) (hf : X.fn n = true ∨ X.env.scope.names.lookup n = some .local)
    (hs : swapsWith a (some (.Name n p)) pos.line X.env = pure false) (ha : PE X a (tE (C := C) G A x)) : PS X (.Assign [.Name n p] a pos) (tS C G A (.set i x)) :=
  (ps_set hN hi hx ha hs hf).weak fun D σ H h => set_go hv hk h
theorem sS_unp {t : Tg} {tg a : Expr} {x : E} (ht : ∀ i ∈ tgS t, A.ks[i]? = some .val) (hk : kdE C x = .fr ∨ kdE C x = .vl) (hs : swapsWithSole [tg] a pos.line X.env = pure false) (hw : swappedStores [tg] a X.env = pure none) (hn : notStar tg = true)
    (hg : PG X tg (tG G A t)) (ha : PE X a (tE (C := C) G A x)) : PS X (.Assign [tg] a pos) (tS C G A (.unp t x)) :=
  (ps_asg ha hg hs hw (by rw [assignEach_cons hn]; rfl)).weak fun D σ H ⟨S, e, r, e', R, h, P⟩ => by
    refine tE_then R (by simpa only [denS] using h) P.errE fun d e1 v H1 h1 k1 R1 v1 => ?_
    cases q : asgT t d e1 with
    | none => rw [q] at h1; cases h1
    | some e2 =>
      rw [q] at h1
      cases h1
      refine ⟨S, e1, d, _, R1, q, v1.rep R.dom hk, fun σ' R2 o2 => P S σ' H1 ⟨(k1.mono fun a z => .inl z), fun a z => .inl z, fun j a hj z => ?_, fun j hj _ => ?_⟩ R2⟩
      · rw [o2 j fun q => not_ownish (ht j q) hj] at z
        exact .inl z
      · exact o2 j fun q => not_ownish (ht j q) hj

/-! ### ends -/
theorem Fr.res {K : PySem.W.Frag} {S S0 : AS} {H0 H H' : Hp} {d : D} {v : V} (hs : ∀ a, S0 a → S a) (hd : ∀ a, H0 a ≠ none → H a ≠ none) (h : Fr K S H H' d v) : Fr K S0 H0 H' d v := by
  have m : ∀ b, S0 b → S b ∨ H' b = none := fun b z => .inl (hs b z)
  have n : ∀ p, H p = none → H0 p = none := fun p z => by
    cases q : H0 p with
    | none => rfl
    | some o => exact absurd z (hd p (by rw [q]; exact fun z => nomatch z))
  cases d with
  | lst ds => obtain ⟨p, e1, e2, e3⟩ := h; exact ⟨p, e1, n p e2, e3.avoid fun b z => .inl (z.imp (hs b) id)⟩
  | dic ds => obtain ⟨p, e1, e2, e3⟩ := h; exact ⟨p, e1, n p e2, e3.avoid fun b z => .inl (z.imp (hs b) id)⟩
  | _ => exact Rep.avoid m h
theorem sS_retN : PS X (.Return none pos) (tS C G A .retN) := ps_retN.weak fun D σ H ⟨S, e, r, e', R, h, P⟩ => by
  rw [denS] at h
  cases h
  refine P .non H R.endR ?_
  unfold ResR
  split
  · exact ⟨.non, rfl⟩
  · exact .non
theorem SR.fzEnd {Z : List Nat} {e : Envd} {H : Hp} (R : SR (A.fz Z) S e σ H) : EndR A e H := R.endR
theorem fz_cel {Z : List Nat} (a : Addr) : CelAt (A.fz Z) σ a ↔ CelAt A σ a := by
  have k : ∀ i : Nat, (A.fz Z).ks[i]? = some .cel ↔ A.ks[i]? = some .cel := fun i => by
    rw [fz_at]
    cases q : A.ks[i]? with
    | none => exact ⟨fun z => (by cases z), fun z => (by cases z)⟩
    | some sk =>
      cases sk with
      | own =>
        simp only [Option.map_some, gF]
        split <;> exact ⟨fun z => (by cases z), fun z => (by cases z)⟩
      | _ => exact Iff.rfl
  exact ⟨fun ⟨i, h1, h2⟩ => ⟨i, (k i).mp h1, h2⟩, fun ⟨i, h1, h2⟩ => ⟨i, (k i).mpr h1, h2⟩⟩
theorem sS_ret {Z : List Nat} {a : Expr} {x : E} (hk : if C.ret = true then kdE (C.fz Z) x = .fr else kdE (C.fz Z) x = .fr ∨ kdE (C.fz Z) x = .vl) (ha : PE X a (tE (C := C.fz Z) G (A.fz Z) x)) : PS X (.Return (some a) pos) (tS C G A (.ret Z x)) :=
  (ps_ret ha).weak fun D σ H ⟨S, e, r, e', R, h, P⟩ => by
    rw [denS] at h
    split at h
    · rename_i hz
      have Rz := R.fz hz
      refine tE_then Rz h (fun y hy cls dd H' _ R' ex => ?_) fun d e1 v H1 h1 k1 R1 v1 => ?_
      · subst hy
        exact P cls dd H' R'.fzEnd ex
      · cases h1
        refine P v H1 R1.fzEnd ?_
        unfold ResR
        split
        · rename_i hr
          rw [if_pos hr] at hk
          rw [hk] at v1
          exact ⟨v1.1.res (fun a z => (Rz.s0 a z)) R.fr.dom, v1.2⟩
        · rename_i hr
          rw [if_neg hr] at hk
          exact (v1.rep Rz.dom hk).avoid fun b z => .inl (Rz.s0 b z)
    · cases h
theorem sS_retO {i : Nat} {n : Str} {p : Pos} (hi : A.ks[i]? = some .own) (hN : X.N[i]? = some n) (hv : Vis X.env.scope n) (hd : (n == ("__debug__" : Str)) = false) (hcd : (n == ("__classdict__" : Str)) = false) : PS X (.Return (some (.Name n p)) pos) (tS C G A (.retO i)) :=
  (ps_ret (pe_var hN hv hd hcd)).weak fun D σ H ⟨S, e, r, e', R, h, P⟩ => by
    rw [denS] at h
    cases q : getV e i with
    | none => rw [q] at h; cases h
    | some d =>
      rw [q] at h
      simp only [pr_some, bnd_ok] at h
      obtain ⟨v, hs, hsl⟩ := R.getV q
      refine ⟨v, hs, ?_⟩
      rw [hi] at hsl
      obtain ⟨a, rfl, s1, s2, ob⟩ := hsl
      cases d with
      | lst ds =>
        cases h
        refine P (.ref a) H R.endR ?_
        have ob0 : Ob A.K A.S0 H (.lst ds) a := ob.avoid fun b z => .inl (R.s0 b z)
        unfold ResR
        split
        · exact ⟨⟨a, rfl, s2, ob.avoid fun b z => .inl (z.elim (R.s0 b) fun q => by rw [q]; exact s1)⟩, rfl⟩
        · obtain ⟨xs, q1, q2⟩ := ob0
          exact .lst (.inl ⟨fun z => R.s0h a z s2, .inl q1⟩) q2
      | _ => cases h

/-! ### turnings and loops -/
theorem sS_if {c : Expr} {a b : List Stmt} {x : E} {p q : List Sm} (hc : PT X c (tT G A x)) (ha : PSs X a (tSs C G A p)) (hb : PSs X b (tSs C G A q)) : PS X (.If c a b pos) (tS C G A (.ifs x p q)) :=
  (ps_if hc ha hb).weak fun D σ H ⟨S, e, r, e', R, h, P⟩ => by
    have inl : ∀ i, i ∈ mutSs p → i ∈ mutS (.ifs x p q) := fun i z => by rw [mutS]; exact List.mem_append_left _ z
    have inr : ∀ i, i ∈ mutSs q → i ∈ mutS (.ifs x p q) := fun i z => by rw [mutS]; exact List.mem_append_right _ z
    refine tT_then R (by simpa only [denS] using h) P.errE fun k e1 H1 h1 k1 R1 => ?_
    have P1 := P.shift (.ofE k1)
    cases k with
    | true => rw [if_pos rfl] at h1 ⊢; exact ⟨S, e1, r, e', R1, h1, P1.mono inl⟩
    | false => rw [if_neg Bool.false_ne_true] at h1 ⊢; exact ⟨S, e1, r, e', R1, h1, P1.mono inr⟩
/-- a test that sees lists of one's own as data -/
def tTz (G : Gam) (A : Ac) (Z : List Nat) (x : E) : TT := fun σ H Q => ∃ bo, tT G (A.pv Z bo) x σ H Q
theorem pv_ext {Z : List Nat} {bo : AS} {H H' : Hp} (k : Kp (CelAt (A.pv Z bo) σ) H H') : Kp (fun _ => False) H H' := k.mono fun a z => pv_nocel a z
theorem sS_ifz {c : Expr} {a b : List Stmt} {Z : List Nat} {x : E} {p q : List Sm} (hc : PT X c (tTz G A Z x)) (ha : PSs X a (tSs C G A p)) (hb : PSs X b (tSs C G A q)) : PS X (.If c a b pos) (tS C G A (.ifz Z x p q)) :=
  (ps_if hc ha hb).weak fun D σ H ⟨S, e, r, e', R, h, P⟩ => by
    have inl : ∀ i, i ∈ mutSs p → i ∈ mutS (.ifz Z x p q) := fun i z => by rw [mutS]; exact List.mem_append_left _ z
    have inr : ∀ i, i ∈ mutSs q → i ∈ mutS (.ifz Z x p q) := fun i z => by rw [mutS]; exact List.mem_append_right _ z
    rw [denS] at h
    split at h
    · rename_i hz
      cases q : tst (denE G x e) with
      | none => rw [q] at h; cases h
      | some o =>
        obtain ⟨r1, e1⟩ := o
        rw [q] at h
        refine ⟨_, _, e, r1, e1, R.pv hz, q, ?_⟩
        cases r1 with
        | error y =>
          cases h
          intro cls dd H' k1 R' ex
          exact P cls dd H' (R.kp0 (pv_ext k1)).endR ex
        | ok k =>
          intro k' H' k1 R' ek
          subst ek
          have R1 := R.kp0 (pv_ext k1)
          have P1 := P.shift (.ofE ((pv_ext k1).mono fun _ z => z.elim))
          cases k' with
          | true => rw [if_pos rfl]; exact ⟨S, e, r, e', R1, h, P1.mono inl⟩
          | false => rw [if_neg Bool.false_ne_true]; exact ⟨S, e, r, e', R1, h, P1.mono inr⟩
    · cases h
theorem sS_for {tgx iter : Expr} {body : List Stmt} {tg : Tg} {it : It} {b : List Sm} (hp : PassesOwn (model X.prog X.w) X.A X.env X.xe) (hc : X.calm = true) (ht : ∀ i ∈ tgS tg, A.ks[i]? = some .val)
    (hi : PI X tgx iter (tI G A (mutSs b) it)) (hg : PG X tgx (tG G A tg)) (hb : PSs X body (tSs C G A b)) (hs : notSetD iter = true) : PS X (.For tgx iter body [] pos) (tS C G A (.fr tg it b)) :=
  (ps_for hp hc hi hg hb (folded_of hs)).weak fun D σ H ⟨S, e, r, e', R, h, P⟩ => by
    rw [denS] at h
    have P : PostS C A (mutSs b) S σ H D r e' := P
    refine tI_then R h P.errE fun ds e1 J H1 h1 k1 R1 ok hl => ?_
    have P1 := P.shift (.ofE (M := mutSs b) k1)
    refine ⟨fun i m σ' H' => ∃ S' ei, SR A S' ei σ' H' ∧ forL (asgT tg) (denSs G b) (ds.drop i) ei = some (r, e') ∧ Mv A (mutSs b) S σ H1 S' σ' H' ∧ i + m = ds.length, ⟨ds.length, S, e1, R1, by simpa using h1, .refl, by omega⟩, ?_⟩
    rintro i m σi Hi ⟨Si, ei, Ri, hf, mv, him⟩
    obtain ⟨go, stop⟩ := ok _ _ mv.mh
    have Pi := P1.shift mv
    by_cases hi : i < ds.length
    · obtain ⟨d, hd⟩ : ∃ d, ds[i]? = some d := ⟨_, List.getElem?_eq_getElem hi⟩
      obtain ⟨g1, g2⟩ := go i d hd
      have dr : ds.drop i = d :: ds.drop (i + 1) := by
        rw [List.drop_eq_getElem_cons hi]
        rw [List.getElem?_eq_getElem hi] at hd
        cases hd
        rfl
      rw [dr, forL] at hf
      refine .inr ⟨g1, fun σ' H' => ∃ S' ei, SR A S' ei σ' H' ∧ forL (asgT tg) (denSs G b) (ds.drop (i + 1)) ei = some (r, e') ∧ Mv A (mutSs b) S σ H1 S' σ' H', fun σ' H' ⟨a1, a2, a3, a4, a5⟩ => ⟨m - 1, by omega, a1, a2, a3, a4, a5, by omega⟩, fun x H' y => ?_⟩
      obtain ⟨x1, rx⟩ := g2 x H' y
      cases ha : asgT tg d ei with
      | none => rw [ha] at hf; cases hf
      | some ea =>
      rw [ha] at hf
      simp only at hf
      refine ⟨Si, ei, d, ea, Ri.ext x1, ha, rx, fun σ2 R2 o2 => ?_⟩
      have m2 : Mv A (mutSs b) Si σi Hi Si σ2 H' := ⟨Kp.ext x1, fun a z => .inl z, fun j a hj z => by
        rw [o2 j fun q => not_ownish (ht j q) hj] at z
        exact .inl z, fun j hj _ => o2 j fun q => not_ownish (ht j q) hj⟩
      have m3 := mv.trans m2
      have P2 := Pi.shift m2
      cases hb : denSs G b ea with
      | none => rw [hb] at hf; cases hf
      | some o =>
      obtain ⟨rb, eb⟩ := o
      rw [hb] at hf
      refine ⟨Si, ea, rb, eb, R2, hb, ?_⟩
      cases rb with
      | error y => cases hf; exact P2
      | ok f =>
        cases f with
        | nx => exact fun S3 σ3 H3 m4 R3 => ⟨S3, eb, R3, hf, m3.trans m4⟩
        | ct => exact fun S3 σ3 H3 m4 R3 => ⟨S3, eb, R3, hf, m3.trans m4⟩
        | bk => cases hf; exact P2
        | rt d => cases hf; exact P2
    · refine .inl ⟨stop i (by omega), ?_⟩
      rw [List.drop_eq_nil_of_le (by omega)] at hf
      cases hf
      exact Pi Si σi Hi .refl Ri
theorem sS_while {c : Expr} {body : List Stmt} {x : E} {b : List Sm} (hp : PassesOwn (model X.prog X.w) X.A X.env X.xe) (hc : PT X c (tT G A x)) (hb : PSs X body (tSs C G A b)) : PS X (.While c body [] pos) (tS C G A (.wh x b)) :=
  (ps_while hp hc hb).weak fun D σ H ⟨S, e, r, e', R, h, P⟩ => by
    rw [denS] at h
    have P : PostS C A (mutSs b) S σ H D r e' := P
    obtain ⟨n0, h0⟩ := whL_of h
    refine ⟨fun n σ' H' => ∃ S' ei, SR A S' ei σ' H' ∧ whN (fun e1 => tst (denE G x e1)) (denSs G b) n ei = some (r, e') ∧ Mv A (mutSs b) S σ H S' σ' H', ⟨n0, S, e, R, h0, .refl⟩, ?_⟩
    rintro n σi Hi ⟨Si, ei, Ri, hw, mv⟩
    have Pi := P.shift mv
    cases n with
    | zero => cases hw
    | succ n =>
    rw [whN] at hw
    cases hcd : tst (denE G x ei) with
    | none => rw [hcd] at hw; cases hw
    | some o =>
    obtain ⟨rc, e1⟩ := o
    rw [hcd] at hw
    refine ⟨Si, ei, rc, e1, Ri, hcd, ?_⟩
    cases rc with
    | error y => cases hw; exact Pi.errE y rfl
    | ok k =>
      intro k' H1 k1 R1 ek
      subst ek
      have m1 : Mv A (mutSs b) S σ H Si σi H1 := mv.trans (.ofE k1)
      have P1 := Pi.shift (.ofE k1)
      cases k' with
      | false =>
        cases hw
        rw [if_neg Bool.false_ne_true]
        exact P1 Si σi H1 .refl R1
      | true =>
        rw [if_pos rfl]
        simp only at hw
        refine ⟨fun σ' H' => ∃ S' ei, SR A S' ei σ' H' ∧ whN (fun e1 => tst (denE G x e1)) (denSs G b) n ei = some (r, e') ∧ Mv A (mutSs b) S σ H S' σ' H', fun σ' H' z => ⟨n, Nat.lt_succ_self n, z⟩, ?_⟩
        cases hb : denSs G b e1 with
        | none => rw [hb] at hw; cases hw
        | some o =>
        obtain ⟨rb, eb⟩ := o
        rw [hb] at hw
        refine ⟨Si, e1, rb, eb, R1, hb, ?_⟩
        cases rb with
        | error y => cases hw; exact P1
        | ok f =>
          cases f with
          | nx => exact fun S3 σ3 H3 m4 R3 => ⟨S3, eb, R3, hw, m1.trans m4⟩
          | ct => exact fun S3 σ3 H3 m4 R3 => ⟨S3, eb, R3, hw, m1.trans m4⟩
          | bk => cases hw; exact P1
          | rt d => cases hw; exact P1
end Rf

set_option maxRecDepth 100000
set_option maxHeartbeats 1000000
/-! Rf17: statements that change a list or dict of one's own. -/
namespace Rf
open PySem PySem.Spec PyProof.Rows L2
variable [TN]
variable {X : Cx} {C : Cfg} {G : Gam} {A : Ac} {S : AS} {σ : L2.St} {pos : Pos}

theorem SR.ownAt {e : Envd} {H : Hp} (R : SR A S e σ H) {i : Nat} {d : D} (hi : Ownish A i) (h : Rf.getV e i = some d) : ∃ a, σ[i]? = some (some (V.ref a)) ∧ S a ∧ (A.Wp a ∨ A.H0 a = none) ∧ Ob A.K S H d a := by
  obtain ⟨v, h1, h2⟩ := R.getV h
  rcases hi with k | k
  · rw [k] at h2
    obtain ⟨a, rfl, e2, e3, e4⟩ := h2
    exact ⟨a, h1, e2, .inr e3, e4⟩
  · rw [k] at h2
    obtain ⟨a, rfl, e2, e3, e4⟩ := h2
    exact ⟨a, h1, e2, e3, e4⟩
/-- the list or dict in slot i changed -/
theorem SR.mut {e : Envd} {H : Hp} (R : SR A S e σ H) {i : Nat} {d d' : D} {a : Addr} {u : HO} (hi : Ownish A i) (hs : σ[i]? = some (some (V.ref a))) (ob : Ob A.K S H d a) (ob' : Ob A.K S H d' a → True) (new : (Kp (fun x => x = a) H (upd H a u)) → Ob A.K S (upd H a u) d' a) :
    SR A S (e.set i (some d')) σ (upd H a u) ∧ Mv A [i] S σ H S σ (upd H a u) := by
  obtain ⟨o, ho⟩ : ∃ o, H a = some o := by
    cases q : H a with
    | none => exact absurd q ob.dom
    | some o => exact ⟨o, rfl⟩
  have kp : Kp (fun x => x = a) H (upd H a u) := kp_upd ho (fun xs z => by subst z; exact ob.notTup.1 xs ho) (fun o' u' z => by subst z; exact ob.notTup.2 o' u' ho) (fun ps z => by subst z; exact ob.notTbl.1 ps ho) fun c q z => by subst z; exact ob.notTbl.2 c q ho
  have sa : S a := (R.own hi hs).1
  have hl : i < e.length := by
    rw [R.len]
    exact (List.getElem?_eq_some_iff.mp hs).1
  have hw : A.Wp a ∨ A.H0 a = none := by
    obtain ⟨d1, h1, h2⟩ := R.at hi hs
    rcases hi with k | k
    · rw [k] at h2
      obtain ⟨b, e1, _, e3, _⟩ := h2
      cases e1
      exact .inr e3
    · rw [k] at h2
      obtain ⟨b, e1, _, e3, _⟩ := h2
      cases e1
      exact e3
  refine ⟨⟨by rw [List.length_set]; exact R.len, R.s0, R.s0h, fun b h => kp.dom b (R.dom b h), R.new, R.wp, ?_, fun j q => ?_, fun j d2 q => ?_, R.dist, fun b h => ⟨kp.dom b (R.bo b h).1, (R.bo b h).2⟩, R.pc⟩, ⟨kp.mono fun b z => ?_, fun b z => .inl z, fun j b _ z => .inl z, fun _ _ _ => rfl⟩⟩
  · refine ⟨fun b o h n t => kp.keep b o (R.fr.keep b o h n t) (fun z => ?_) t, fun b xs h => kp.tup b xs (R.fr.tup b xs h), fun b h => kp.dom b (R.fr.dom b h), fun b o u h => kp.frz b o u (R.fr.frz b o u h), fun b h => kp.tbl b (R.fr.tbl b h)⟩
    subst z
    rcases hw with z | z
    · exact n z
    · rw [z] at h; cases h
  · by_cases z : i = j
    · subst z
      rw [List.getElem?_set_self hl] at q
      cases q
    · rw [List.getElem?_set_ne z] at q
      exact R.non j q
  · by_cases z : i = j
    · subst z
      rw [List.getElem?_set_self hl] at q
      cases q
      refine ⟨.ref a, hs, ?_⟩
      rcases hi with k | k
      · rw [k]
        obtain ⟨d1, h1, h2⟩ := R.at (.inl k) hs
        rw [k] at h2
        obtain ⟨b, e1, _, e3, _⟩ := h2
        cases e1
        exact ⟨a, rfl, sa, e3, new kp⟩
      · rw [k]
        exact ⟨a, rfl, sa, hw, new kp⟩
    · rw [List.getElem?_set_ne z] at q
      obtain ⟨v, h1, h2⟩ := R.slot j d2 q
      refine ⟨v, h1, h2.kp kp (fun b z => by rw [z]; exact sa) (fun b hb z => (R.bo b hb).2 ⟨i, hi, by rw [z]; exact hs⟩) fun b hv hoj z2 => ?_⟩
      subst z2
      exact R.dist i j b z hi hoj hs (by rw [h1, hv])
  · subst z
    rcases hi with k | k
    · exact .inr ⟨i, List.mem_singleton_self i, k, hs⟩
    · exact .inl ⟨i, k, hs⟩
theorem kp_one_rep {K : PySem.W.Frag} {H H' : Hp} {a : Addr} (sa : S a) (kp : Kp (fun x => x = a) H H') {ds : List D} {xs : List V} (r : RepL K S H ds xs) : RepL K S H' ds xs := r.kp kp fun b z => by rw [z]; exact sa
/-- a new list or dict put into slot i -/
theorem SR.setOwn {e : Envd} {H : Hp} (R : SR A S e σ H) {i : Nat} {d : D} {p : Addr} (hi : Ownish A i) (hpc : ∀ q ∈ A.pcs, q.1 ≠ i) (hS : S p) (h0 : A.H0 p = none) (hO : ¬ OwnAt A σ p) (hb : ¬ A.bo p) (ob : Ob A.K S H d p) : SR A S (e.set i (some d)) (σ.set i (some (.ref p))) H where
  len := by rw [List.length_set, List.length_set]; exact R.len
  s0 := R.s0
  s0h := R.s0h
  dom := R.dom
  new := R.new
  wp := R.wp
  fr := R.fr
  non := fun j q => by
    by_cases z : i = j
    · subst z
      by_cases hl : i < e.length
      · rw [List.getElem?_set_self hl] at q; cases q
      · rw [List.getElem?_eq_none_iff.mpr (by rw [List.length_set]; omega)] at q; cases q
    · rw [List.getElem?_set_ne z] at q ⊢
      exact R.non j q
  slot := fun j d' q => by
    by_cases z : i = j
    · subst z
      by_cases hl : i < e.length
      · rw [List.getElem?_set_self hl] at q
        cases q
        refine ⟨.ref p, List.getElem?_set_self (by rw [← R.len]; exact hl), ?_⟩
        rcases hi with k | k
        · rw [k]; exact ⟨p, rfl, hS, h0, ob⟩
        · rw [k]; exact ⟨p, rfl, hS, .inr h0, ob⟩
      · rw [List.getElem?_eq_none_iff.mpr (by rw [List.length_set]; omega)] at q; cases q
    · rw [List.getElem?_set_ne z] at q ⊢
      exact R.slot j d' q
  dist := fun j k a hjk hj hk h1 h2 => by
    by_cases z1 : i = j
    · subst z1
      rw [List.getElem?_set_ne hjk] at h2
      have hl := (List.getElem?_eq_some_iff.mp h1).1
      rw [List.length_set] at hl
      rw [List.getElem?_set_self hl] at h1
      cases h1
      exact hO ⟨k, hk, h2⟩
    · by_cases z2 : i = k
      · subst z2
        rw [List.getElem?_set_ne z1] at h1
        have hl := (List.getElem?_eq_some_iff.mp h2).1
        rw [List.length_set] at hl
        rw [List.getElem?_set_self hl] at h2
        cases h2
        exact hO ⟨j, hj, h1⟩
      · rw [List.getElem?_set_ne z1] at h1
        rw [List.getElem?_set_ne z2] at h2
        exact R.dist j k a hjk hj hk h1 h2
  bo := fun a h => ⟨(R.bo a h).1, fun ⟨j, hj, z⟩ => by
    by_cases z1 : i = j
    · subst z1
      have hl := (List.getElem?_eq_some_iff.mp z).1
      rw [List.length_set] at hl
      rw [List.getElem?_set_self hl] at z
      cases z
      exact hb h
    · rw [List.getElem?_set_ne z1] at z
      exact (R.bo a h).2 ⟨j, hj, z⟩⟩
  pc := fun q hq => by
    obtain ⟨h1, h2⟩ := R.pc q hq
    exact ⟨h1, by rw [List.getElem?_set_ne fun z => hpc q hq z.symm]; exact h2⟩
theorem setX_go {i : Nat} {D : L2.Ends} {S : AS} {e e1 : Envd} {d : Rf.D} {H H1 : Hp} {p : Addr} (R : SR A S e σ H) (hi : Ownish A i) (hpc : ∀ q ∈ A.pcs, q.1 ≠ i) (k1 : Kp (CelAt A σ) H H1) (hn : H p = none) (R1 : SR A (plusA S p) e1 σ H1) (ob : Ob A.K (plusA S p) H1 d p)
    (P : PostS C A [i] S σ H D (.ok .nx) (e1.set i (some d))) : D.nx (σ.set i (some (.ref p))) H1 := by
  refine P (plusA S p) _ H1 ⟨k1.mono fun a z => .inl z, fun a z => z.elim .inl fun q => .inr (by rw [q]; exact hn), fun j a hj z => ?_, fun j hj hm => ?_⟩ (R1.setOwn hi hpc (.inr rfl) (R.h0 hn) (fun z => R.ownD p z hn) (fun z => (R.bo p z).1 hn) ob)
  · by_cases q : i = j
    · subst q
      have hl := (List.getElem?_eq_some_iff.mp z).1
      rw [List.length_set] at hl
      rw [List.getElem?_set_self hl] at z
      cases z
      exact .inr hn
    · rw [List.getElem?_set_ne q] at z
      exact .inl z
  · exact List.getElem?_set_ne fun q => hm (by rw [q]; exact List.mem_singleton_self _)
theorem setC_go {i : Nat} {x : E} {D : L2.Ends} {H : Hp} (hi : Ownish A i) (hpc : ∀ q ∈ A.pcs, q.1 ≠ i) (hob : ∀ e d e', denE G x e = some (.ok d, e') → isOb d = true) (h : tS C G A (.setC i x) D σ H) : tX G A x σ H fun v H1 => D.nx (σ.set i (some v)) H1 := by
  obtain ⟨S, e, r, e', R, h, P⟩ := h
  have P : PostS C A [i] S σ H D r e' := P
  rw [denS] at h
  cases q : denE G x e with
  | none => rw [q] at h; cases h
  | some o =>
    obtain ⟨r1, e1⟩ := o
    rw [q] at h
    refine ⟨S, e, r1, e1, R, q, fun d hd => hob e d e1 (by rw [← hd]; exact q), ?_⟩
    cases r1 with
    | error y => cases h; exact P.errE y rfl
    | ok d => cases h; exact fun p H' k1 hn R1 ob => setX_go R hi hpc k1 hn R1 ob P
/-- an expression that changes nothing, its value new -/
def tEp (C : Cfg) (G : Gam) (A : Ac) (x : E) : TE := fun σ H Q => ∃ bo, tE (C := C.pv []) G (A.pv [] bo) x σ H Q
theorem pv_nil {e : Envd} {H : Hp} (R : SR A S e σ H) : SR (A.pv [] fun a => A.bo a ∨ CelAt A σ a) S e σ H :=
  (R.pv (Z := []) rfl).shrink (S' := S) (fun a z => ⟨z, fun ⟨i, hi, _⟩ => nomatch hi⟩) R.s0 fun a ⟨i, z1, z2⟩ => R.ownS a ⟨i, .inl (pv_own z1).1, z2⟩
theorem pure_new {x : E} {S : AS} {e : Envd} {H : Hp} (R : SR A S e σ H) (hk : kdE (C.pv []) x = .fr ∨ kdE (C.pv []) x = .fo) {Q : VK} {r1 : Except Exc D} {e1 : Envd} (h : denE G x e = some (r1, e1))
    (pe : ∀ y, r1 = .error y → ∀ cls dd H', SR A S e σ H' → ExR A H' y cls dd → A.XW cls dd H') (ok : ∀ d, r1 = .ok d → isOb d = true ∧ ∀ p H', Kp (fun _ => False) H H' → H p = none → SR A (plusA S p) e σ H' → Ob A.K (plusA S p) H' d p → Q (.ref p) H') : tEp C G A x σ H Q := by
  refine ⟨_, S, e, r1, e1, pv_nil R, h, ?_⟩
  cases r1 with
  | error y => exact fun cls dd H' k1 R' ex => pe y rfl cls dd H' (R.kp0 (pv_ext k1)) ex
  | ok d =>
    intro v H' k1 R' vr
    have xt := pv_ext k1
    obtain ⟨ho, ok⟩ := ok d rfl
    have fr : Fr A.K S H H' d v := by
      rcases hk with hk | hk
      · rw [hk] at vr; exact vr.1
      · rw [hk] at vr; exact vr
    have key : ∀ p, v = .ref p → H p = none → Ob A.K (plusA S p) H' d p → Q v H' := fun p ev hn ob => by
      subst ev
      exact ok p H' xt hn (R.allocK hn xt ob.dom) ob
    cases d with
    | lst ds => obtain ⟨p, e1, e2, e3⟩ := fr; exact key p e1 e2 e3
    | dic ds => obtain ⟨p, e1, e2, e3⟩ := fr; exact key p e1 e2 e3
    | _ => cases ho
end Rf

set_option maxRecDepth 100000
set_option maxHeartbeats 1000000
/-! Rf18: the rules of those statements. -/
namespace Rf
open PySem PySem.Spec PyProof.Rows L2
variable [TN]
variable {X : Cx} {C : Cfg} {G : Gam} {A : Ac} {S : AS} {σ : L2.St} {pos : Pos}

theorem sS_setC {i : Nat} {n : Str} {a : Expr} {x : E} {p : Pos} (hv : Ownish A i) (hpc : ∀ q ∈ A.pcs, q.1 ≠ i) (hob : ∀ e d e', denE G x e = some (.ok d, e') → isOb d = true) (hN : X.N.Nodup) (hi : X.N[i]? = some n) (hx : Loc X.env.scope n) (hf : X.fn n = true ∨ X.env.scope.names.lookup n = some .local)
    (hs : swapsWith a (some (.Name n p)) pos.line X.env = pure false) (ha : PE X a (tX G A x)) : PS X (.Assign [.Name n p] a pos) (tS C G A (.setC i x)) :=
  (ps_set hN hi hx ha hs hf).weak fun D σ H h => setC_go hv hpc hob h
theorem sS_setO {i : Nat} {n : Str} {a : Expr} {x : E} {p : Pos} (hv : Ownish A i) (hpc : ∀ q ∈ A.pcs, q.1 ≠ i) (hk : kdE (C.pv []) x = .fr ∨ kdE (C.pv []) x = .fo) (hN : X.N.Nodup) (hi : X.N[i]? = some n) (hx : Loc X.env.scope n) (hf : X.fn n = true ∨ X.env.scope.names.lookup n = some .local)
    (hs : swapsWith a (some (.Name n p)) pos.line X.env = pure false) (ha : PE X a (tEp C G A x)) : PS X (.Assign [.Name n p] a pos) (tS C G A (.setO i x)) :=
  (ps_set hN hi hx ha hs hf).weak fun D σ H ⟨S, e, r, e', R, h, P⟩ => by
    have P : PostS C A [i] S σ H D r e' := P
    rw [denS] at h
    cases q : denE G x e with
    | none => rw [q] at h; cases h
    | some o =>
      obtain ⟨r1, e1⟩ := o
      rw [q] at h
      refine pure_new R hk q (fun y hy cls dd H' R' ex => ?_) fun d hd => ?_
      · subst hy
        cases h
        exact P.err y rfl cls dd H' R' ex
      · subst hd
        simp only at h
        split at h
        · rename_i ho
          cases h
          exact ⟨ho, fun p H' xt hn R' ob => setX_go R hv hpc (xt.mono fun _ z => z.elim) hn R' ob P⟩
        · cases h
theorem few_one {a : Expr} {cpos : Pos} {env : Env} (hs : notStar a = true) : ((backTo cpos (starEach [a] env)).all (fun x => !x.1) && (backToKw cpos (keywordEach [] env)).all (fun x => x.1.isSome)
      && decide (([a] : List Expr).length + ([] : List Keyword).length + (if ([] : List Keyword).isEmpty then 0 else 1) < 30)) = true := by
  rw [star_cons hs]; rfl
theorem few_two {a b : Expr} {cpos : Pos} {env : Env} (hs : notStar a = true) (hs2 : notStar b = true) : ((backTo cpos (starEach [a, b] env)).all (fun x => !x.1) && (backToKw cpos (keywordEach [] env)).all (fun x => x.1.isSome)
      && decide (([a, b] : List Expr).length + ([] : List Keyword).length + (if ([] : List Keyword).isEmpty then 0 else 1) < 30)) = true := by
  rw [star_cons hs, star_cons hs2]; rfl
theorem ob_lst {K : PySem.W.Frag} {H : Hp} {a : Addr} {ds : List D} (h : Ob K S H (.lst ds) a) : ∃ xs, H a = some (.lst xs) ∧ RepL K S H ds xs := h
theorem getV_at {e : Envd} {i : Nat} {d : D} (h : Rf.getV e i = some d) : e[i]? = some (some d) := by
  unfold Rf.getV at h
  cases q : e[i]? with
  | none => rw [q] at h; cases h
  | some o => rw [q] at h; simp only at h; rw [h]
theorem own_at {e : Envd} {H : Hp} (R : SR A S e σ H) {i : Nat} {d : D} {a : Addr} (hi : Ownish A i) (hs : σ[i]? = some (some (V.ref a))) (h : Rf.getV e i = some d) : Ob A.K S H d a := by
  obtain ⟨b, h1, _, _, ob⟩ := R.ownAt hi h
  rw [hs] at h1
  cases h1
  exact ob
/-- the receiver is a list -/
theorem lst_start {α : Type} {e : Envd} {H : Hp} {i : Nat} {f : Unit → Envd → Rs α} {r : Except Exc α} {e' : Envd} (R : SR A S e σ H) (hi : Ownish A i) (h : bnd (pr (lstAt e i) e) f = some (r, e')) :
    ∃ a, σ[i]? = some (some (V.ref a)) ∧ tyV A.K "list" (.ref a) H ∧ f () e = some (r, e') := by
  cases q : lstAt e i with
  | none => rw [q] at h; cases h
  | some u =>
    rw [q] at h
    unfold lstAt at q
    cases g : Rf.getV e i with
    | none => rw [g] at q; cases q
    | some d =>
      rw [g] at q
      cases d with
      | lst ds =>
        obtain ⟨a, h1, _, _, xs, h2, _⟩ := R.ownAt hi g
        exact ⟨a, h1, .inl ⟨rfl, xs, .inl (.inl h2)⟩, h⟩
      | _ => cases q
/-- a list in slot i changed, and the end -/
theorem mut_end {i : Nat} {D : L2.Ends} {S : AS} {e1 : Envd} {H H1 : Hp} {d d' : Rf.D} {a : Addr} {u : HO} (hi : Ownish A i) (hs : σ[i]? = some (some (V.ref a))) (k1 : Kp (CelAt A σ) H H1) (R1 : SR A S e1 σ H1) (hg : Rf.getV e1 i = some d) (new : Kp (fun x => x = a) H1 (upd H1 a u) → Ob A.K S (upd H1 a u) d' a)
    (P : PostS C A [i] S σ H D (.ok .nx) (e1.set i (some d'))) : D.nx σ (upd H1 a u) := by
  obtain ⟨R2, m2⟩ := R1.mut (u := u) hi hs (own_at R1 hi hs hg) (fun _ => trivial) new
  exact P S σ _ ((Mv.ofE k1).trans m2) R2
theorem sS_app {i : Nat} {n : Str} {a : Expr} {x : E} {p apos cpos : Pos} (hKx : X.K = A.K) (hv : Ownish A i) (hk : kdE C x = .fr ∨ kdE C x = .vl) (hN : X.N[i]? = some n) (hvis : Vis X.env.scope n) (hd : (n == ("__debug__" : Str)) = false) (hcd : (n == ("__classdict__" : Str)) = false)
    (hl : (apos.endLine == cpos.line) = true) (hst : notStar a = true) (ha : PE X a (tE (C := C) G A x)) : PS X (.Expr (.Call (.Attribute (.Name n p) "append" apos) [a] [] cpos) pos) (tS C G A (.app i x)) :=
  (ps_expr (pe_bm (o := .Name n p) PySem.F.plainAttrs_list PySem.F.slot_list_append PySem.F.type_list_append mt_append (pe_var hN hvis hd hcd) (pa_cons ha pa_nil (star_cons hst)) rfl (few_one hst) hl (star_cons hst) rfl) rfl).weak fun D σ H ⟨S, e, r, e', R, h, P⟩ => by
    have P : PostS C A [i] S σ H D r e' := P
    rw [denS] at h
    obtain ⟨p, hs, ty, h⟩ := lst_start R hv h
    refine ⟨.ref p, hs, by rw [hKx]; exact ty, ?_⟩
    refine tE_then R h P.errE fun d e1 v H1 h1 k1 R1 v1 => ?_
    have rv := v1.rep R.dom hk
    cases g : getV e1 i with
    | none => rw [g] at h1; cases h1
    | some d0 =>
    rw [g] at h1
    have ob := own_at R1 hv hs g
    have sa : S p := (R1.own hv hs).1
    cases d0 with
    | lst ds =>
      obtain ⟨xs, q1, q2⟩ := ob
      simp only [Option.bind_some, appD] at h1
      split at h1
      · rename_i hlt
        cases h1
        exact ⟨p, xs, v, rfl, rfl, q1, by rw [← q2.length]; exact hlt, mut_end (d' := .lst _) hv hs k1 R1 g (fun kp => ⟨_, upd_same, kp_one_rep sa kp (q2.append (.cons rv .nil))⟩) P⟩
      · cases h1
    | _ => cases h1
/-- f(..).append(c): the new list is not kept -/
theorem sS_appX {o : Expr} {x : E} {k : Const} {m : Nat} {d : Rf.D} {apos cpos kp : Pos} (hKx : X.K = A.K) (hk : kdE (C.pv []) x = .fr) (hl : (apos.endLine == cpos.line) = true) (hc : litC k d = true) (ho : PE X o (tEp C G A x))
    (hbase : attributeBase o "append" X.env (eval o X.env) = eval o X.env) : PS X (.Expr (.Call (.Attribute o "append" apos) [.Constant k m kp] [] cpos) pos) (tS C G A (.appX x d)) :=
  (ps_expr (pe_bm (o := o) PySem.F.plainAttrs_list PySem.F.slot_list_append PySem.F.type_list_append mt_append ho (pa_cons (sE_c (C := C) (G := G) (A := A) hc) pa_nil (star_cons rfl)) hbase (few_one rfl) hl (star_cons rfl) rfl) rfl).weak fun D σ H ⟨S, e, r, e', R, h, P⟩ => by
    rw [denS] at h
    cases q : denE G x e with
    | none => rw [q] at h; cases h
    | some o1 =>
      obtain ⟨r1, e1⟩ := o1
      rw [q] at h
      refine pure_new R (.inl hk) q (fun y hy cls dd H' R' ex => ?_) fun d1 hd => ?_
      · subst hy
        cases h
        exact P.err y rfl cls dd H' R' ex
      · subst hd
        cases d1 with
        | lst ds =>
          simp only at h
          split at h
          · rename_i hlt
            cases h
            refine ⟨rfl, fun p H1 xt hn R1 ob => ?_⟩
            obtain ⟨xs, q1, q2⟩ := ob
            refine ⟨.inl ⟨rfl, xs, .inl (.inl q1)⟩, plusA S p, e, .ok d, e, R1, by simp [denE], fun v H2 k2 R2 vr => ?_⟩
            have rv : Rep A.K (plusA S p) H2 d v := vr.rep R1.dom (.inl rfl)
            have np : ¬ CelAt A σ p := fun z => R.celD p z hn
            have q3 : H2 p = some (.lst xs) := k2.keep p _ q1 np fun _ z => nomatch z
            refine ⟨p, xs, v, rfl, rfl, q3, by rw [← q2.length]; exact hlt, ?_⟩
            have kd : Kp (fun a => a = p) H2 (upd H2 p (.lst (xs ++ [v]))) := kp_upd q3 (fun xs z => nomatch z) (fun o u z => nomatch z) (fun _ z => nomatch z) fun _ _ z => by unfold LamX.CodeO at z; cases z
            have R3 : SR A (plusA S p) e σ (upd H2 p (.lst (xs ++ [v]))) := R2.other kd (fun a z => .inr z) (fun a z w => R.ownD a w (by rw [z]; exact hn)) (fun a w z => (R.bo a w).1 (by rw [z]; exact hn)) fun a z => by rw [z]; exact R.h0 hn
            have k1 : Kp (fun a => CelAt A σ a ∨ a = p) H (upd H2 p (.lst (xs ++ [v]))) := ((xt.mono fun _ z => z.elim).trans (k2.mono fun a z => .inl z)).trans (kd.mono fun a z => .inr z)
            have k3 : Kp (CelAt A σ) H (upd H2 p (.lst (xs ++ [v]))) := ⟨fun a o h n t => k1.keep a o h (fun z => z.elim n fun e => (by rw [e, hn] at h; cases h)) t, k1.tup, k1.dom, k1.frz, k1.tbl⟩
            exact P (plusA S p) σ _ ⟨k3.mono fun a z => .inl z, fun a z => z.elim .inl fun q => .inr (by rw [q]; exact hn), fun i a _ z => .inl z, fun _ _ _ => rfl⟩ R3
          · cases h
        | _ => cases h
theorem sS_ins {i : Nat} {n : Str} {a b : Expr} {x y : E} {p apos cpos : Pos} (hKx : X.K = A.K) (hv : Ownish A i) (hk : kdE C y = .fr ∨ kdE C y = .vl) (hN : X.N[i]? = some n) (hvis : Vis X.env.scope n) (hd : (n == ("__debug__" : Str)) = false) (hcd : (n == ("__classdict__" : Str)) = false)
    (hl : (apos.endLine == cpos.line) = true) (hst : notStar a = true) (hst2 : notStar b = true) (ha : PE X a (tE (C := C) G A x)) (hb : PE X b (tE (C := C) G A y)) : PS X (.Expr (.Call (.Attribute (.Name n p) "insert" apos) [a, b] [] cpos) pos) (tS C G A (.ins i x y)) :=
  (ps_expr (pe_bm (o := .Name n p) PySem.F.plainAttrs_list PySem.F.slot_list_insert PySem.F.type_list_insert mt_insert (pe_var hN hvis hd hcd) (pa_cons ha (pa_cons hb pa_nil (star_cons hst2)) (star_cons hst)) rfl (few_two hst hst2) hl (star_cons hst)
      (star_any (by simp [hst2]))) rfl).weak fun D σ H ⟨S, e, r, e', R, h, P⟩ => by
    have P : PostS C A [i] S σ H D r e' := P
    rw [denS] at h
    obtain ⟨p, hs, ty, h⟩ := lst_start R hv h
    refine ⟨.ref p, hs, by rw [hKx]; exact ty, ?_⟩
    refine tE_then R h P.errE fun d e1 v H1 h1 k1 R1 v1 => ?_
    refine tE_then R1 h1 P.errE fun d2 e2 v2 H2 h2 k2 R2 v2' => ?_
    have rv := v2'.rep R1.dom hk
    have vx : Vw A.K (CelAt A σ) S H1 d v := v1.vw R.celD
    cases g : getV e2 i with
    | none => rw [g] at h2; cases h2
    | some d0 =>
    rw [g] at h2
    have ob := own_at R2 hv hs g
    have sa : S p := (R2.own hv hs).1
    cases d0 with
    | lst ds =>
      obtain ⟨xs, q1, q2⟩ := ob
      cases d with
      | int j =>
        obtain rfl := vx.int
        simp only [Option.bind_some, insD] at h2
        split at h2
        · rename_i hlt
          cases h2
          have hz : LIM = 16777216 := rfl
          refine ⟨p, xs, j, v2, rfl, rfl, q1, by rw [← q2.length]; exact hlt.1, hlt.2.1, by omega, mut_end (d' := .lst _) hv hs (k1.trans k2) R2 g (fun kp => ⟨_, upd_same, ?_⟩) P⟩
          have z := kp_one_rep sa kp ((q2.take j.toNat).append (.cons rv (q2.drop j.toNat)))
          simpa [List.append_assoc] using z
        · cases h2
      | _ => cases h2
    | _ => cases d <;> cases h2
theorem sS_ext {i : Nat} {n : Str} {a : Expr} {x : E} {p : Pos} (hv : Ownish A i) (hk : kdE C x = .fr) (hN : X.N.Nodup) (hi : X.N[i]? = some n) (hx : Loc X.env.scope n) (hf : X.fn n = true ∨ X.env.scope.names.lookup n = some .local) (ha : PE X a (tE (C := C) G A x)) :
    PS X (.AugAssign (.Name n p) .Add a pos) (tS C G A (.ext i x)) :=
  (ps_aug (ti := rExt2) hN hi hx ha iop_ext hf).weak fun D σ H ⟨S, e, r, e', R, h, P⟩ => by
    have P : PostS C A [i] S σ H D r e' := P
    rw [denS] at h
    obtain ⟨p, hs, _, h⟩ := lst_start R hv h
    refine ⟨.ref p, hs, ?_⟩
    refine tE_then R h P.errE fun d e1 v H1 h1 k1 R1 v1 => ?_
    rw [hk] at v1
    cases g : getV e1 i with
    | none => rw [g] at h1; cases h1
    | some d0 =>
    rw [g] at h1
    have ob := own_at R1 hv hs g
    have sa : S p := (R1.own hv hs).1
    cases d0 with
    | lst ds =>
      obtain ⟨xs, q1, q2⟩ := ob
      cases d with
      | lst es =>
        obtain ⟨b, rfl, hn, ob2⟩ := v1.1
        obtain ⟨ys, z1, z2⟩ := ob2.minus
        simp only [Option.bind_some, extD] at h1
        split at h1
        · rename_i hlt
          cases h1
          have e1 := q2.length
          have e2 := z2.length
          refine ⟨p, b, xs, ys, rfl, rfl, q1, z1, by have : LIM = sizeLine := rfl; omega, ?_⟩
          have := mut_end (d' := .lst _) hv hs k1 R1 g (fun kp => ⟨_, upd_same, kp_one_rep sa kp (q2.append z2)⟩) P
          have es : σ.set i (some (V.ref p)) = σ := by
            apply List.ext_getElem?
            intro j
            by_cases z : i = j
            · subst z
              rw [hs, List.getElem?_set_self (List.getElem?_eq_some_iff.mp hs).1]
            · exact List.getElem?_set_ne z
          show D.nx (σ.set i (some (V.ref p))) _
          rw [es]
          exact this
        · cases h1
      | _ => cases h1
    | _ => cases d <;> cases h1
theorem sS_aug {i : Nat} {n : Str} {op : Operator} {a : Expr} {x : E} {p : Pos} (hv : A.ks[i]? = some .val) (hop : op = .Add ∨ op = .Sub) (hN : X.N.Nodup) (hi : X.N[i]? = some n) (hx : Loc X.env.scope n) (hf : X.fn n = true ∨ X.env.scope.names.lookup n = some .local) (ha : PE X a (tE (C := C) G A x)) :
    PS X (.AugAssign (.Name n p) op a pos) (tS C G A (.aug i op x)) := by
  have go : ∀ {f : Int → Int → Int}, (∀ a d r, augD op a d = some r → ∃ i j, a = .int i ∧ d = .int j ∧ r = .int (f i j)) → PIp X op (ipI f) → PS X (.AugAssign (.Name n p) op a pos) (tS C G A (.aug i op x)) := fun {f} hf' hp =>
    (ps_aug hN hi hx ha hp hf).weak fun D σ H ⟨S, e, r, e', R, h, P⟩ => by
      have P : PostS C A [] S σ H D r e' := P
      rw [denS] at h
      cases g : getV e i with
      | none => rw [g] at h; cases h
      | some d0 =>
      rw [g] at h
      simp only [pr_some, bnd_ok] at h
      obtain ⟨v0, hs, hsl⟩ := R.getV g
      rw [hv] at hsl
      refine ⟨v0, hs, ?_⟩
      refine tE_then R h P.errE fun d e1 v H1 h1 k1 R1 v1 => ?_
      cases q : augD op d0 d with
      | none => rw [q] at h1; cases h1
      | some r0 =>
        rw [q] at h1
        cases h1
        obtain ⟨j, k, rfl, rfl, rfl⟩ := hf' _ _ _ q
        have e1 : v0 = .int j := Vw.int (W := fun _ => False) (.inl (show Rep A.K S H (.int j) v0 from hsl))
        have e2 : v = .int k := (v1.vw R.celD).int
        refine ⟨j, k, e1, e2, P S _ H1 ⟨k1.mono fun a z => .inl z, fun a z => .inl z, fun m a hm z => ?_, fun m hm _ => ?_⟩ (R1.setVal hv (.int _))⟩
        · rw [List.getElem?_set_ne (fun q => by subst q; exact not_ownish hv hm)] at z
          exact .inl z
        · exact List.getElem?_set_ne fun q => by subst q; exact not_ownish hv hm
  rcases hop with rfl | rfl
  · refine go (f := fun i j => i + j) (fun a d r h => ?_) ip_add
    cases a <;> first | (cases d <;> first | (cases h; exact ⟨_, _, rfl, rfl, rfl⟩) | cases h) | cases h
  · refine go (f := fun i j => i - j) (fun a d r h => ?_) ip_sub
    cases a <;> first | (cases d <;> first | (cases h; exact ⟨_, _, rfl, rfl, rfl⟩) | cases h) | cases h
theorem sS_stx {i : Nat} {n : Str} {b a : Expr} {x y : E} {p p2 : Pos} (hu : X.A.units + 1 < cLine) (hv : Ownish A i) (hk : kdE C x = .fr ∨ kdE C x = .vl) (hN : X.N[i]? = some n) (hvis : Vis X.env.scope n) (hd : (n == ("__debug__" : Str)) = false) (hcd : (n == ("__classdict__" : Str)) = false)
    (hst : notSlice b = true) (ha : PE X a (tE (C := C) G A x)) (hb : PE X b (tE (C := C) G A y)) (hs : swapsWithSole [.Subscript (.Name n p) b p2] a pos.line X.env = pure false) (hw : swappedStores [.Subscript (.Name n p) b p2] a X.env = pure none) :
    PS X (.Assign [.Subscript (.Name n p) b p2] a pos) (tS C G A (.stx i y x)) := by
  have ps : PSet X (fun o i v H Q => rSetL o i v H Q ∨ rSetD o i v H Q) := fun pins s σ H o i v ov iv u Q I r1 r2 r3 h => h.elim (set_list pins s σ H o i v ov iv u Q I r1 r2 r3) (set_dict hu pins s σ H o i v ov iv u Q I r1 r2 r3)
  refine (ps_asg ha (pg_sub (o := .Name n p) (pe_var hN hvis hd hcd) hb ps (by intro v; cases b <;> first | rfl | cases hst)) hs hw rfl).weak fun D σ H ⟨S, e, r, e', R, h, P⟩ => ?_
  have P : PostS C A [i] S σ H D r e' := P
  rw [denS] at h
  refine tE_then R h P.errE fun d e1 v H1 h1 k1 R1 v1 => ?_
  have rv0 := v1.rep R.dom hk
  cases g0 : getV e1 i with
  | none => rw [g0] at h1; cases h1
  | some d00 =>
  rw [g0] at h1
  simp only [pr_some, bnd_ok] at h1
  obtain ⟨p, hs, _, _⟩ := R1.ownAt hv g0
  refine ⟨.ref p, hs, ?_⟩
  refine tE_then R1 h1 P.errE fun d2 e2 v2 H2 h2 k2 R2 v2' => ?_
  have rv : Rep A.K S H2 d v := rv0.kp k2 R1.celS
  have vx : Vw A.K (CelAt A σ) S H2 d2 v2 := v2'.vw R1.celD
  cases g : getV e2 i with
  | none => rw [g] at h2; cases h2
  | some d0 =>
  rw [g] at h2
  have ob := own_at R2 hv hs g
  have sa : S p := (R2.own hv hs).1
  cases d0 with
  | lst ds =>
    obtain ⟨xs, q1, q2⟩ := ob
    cases d2 with
    | int j =>
      obtain rfl := vx.int
      cases hx : ixN ds.length j with
      | none => simp [stD, hx] at h2
      | some m =>
        simp only [Option.bind_some, stD, hx, Option.map_some, pr_some, bnd_ok] at h2
        cases h2
        exact .inl ⟨p, xs, j, m, rfl, rfl, q1, by rw [← q2.length]; exact hx, mut_end (d' := .lst _) hv hs (k1.trans k2) R2 g (fun kp => ⟨_, upd_same, kp_one_rep sa kp (RepL.set rv m q2)⟩) P⟩
    | _ => cases h2
  | dic kvs =>
    obtain ⟨ks, q1, q2, nd⟩ := ob
    cases ek : keyOf d2 with
    | none => simp [stD, ek] at h2
    | some k =>
      simp only [Option.bind_some, stD, ek] at h2
      split at h2
      · rename_i hlt
        cases h2
        have e2 : v2 = kV k := vx.key ek
        have ed : d2 = keyD k := by cases d2 <;> simp [keyOf] at ek <;> subst ek <;> rfl
        refine .inr ⟨p, upd _ p (.dK (putK ks k v)), rfl, by rw [e2]; exact DPut.k q1 (by rw [← q2.len]; exact hlt), mut_end (d' := .dic _) hv hs (k1.trans k2) R2 g (fun kp => ⟨_, upd_same, ?_, putK_nodup nd⟩) P⟩
        rw [ed]
        exact (RepK.put rv q2).kp kp fun b z => by rw [z]; exact sa
      · cases h2
  | _ => cases d2 <;> cases h2
end Rf

set_option maxRecDepth 100000
set_option maxHeartbeats 1000000
/-! Rf19: remove; several names at once; raise. -/
namespace Rf
open PySem PySem.Spec PyProof.Rows L2
variable [TN]
variable {X : Cx} {C : Cfg} {G : Gam} {A : Ac} {S : AS} {σ : L2.St} {pos : Pos}

/-- the first equal one is taken out -/
def rRem (K : PySem.W.Frag) : V → List V → Hp → VK → Prop := fun x vs H Q => ∃ (l : Addr) (y : V) (W S : AS) (d : D) (ds : List D) (xs : List V) (j : Nat), x = .ref l ∧ vs = [y] ∧ H l = some (.lst xs) ∧ RepL K S H ds xs ∧ Vw K W S H d y ∧ okIn ds d = true ∧
  (ds.findIdx? fun z => eqD z d) = some j ∧ Q .non (upd H l (.lst (xs.eraseIdx j)))
theorem toPDs_get : ∀ (ds : List D) (i : Nat), (toPDs ds)[i]? = (ds[i]?).map toPD
  | [], i => by simp [toPDs]
  | d :: ds, 0 => by simp [toPDs]
  | d :: ds, i + 1 => by simp only [toPDs, List.getElem?_cons_succ]; exact toPDs_get ds i
theorem mt_rem (hu : X.A.units + 102 < cLine) : MtR X "list.remove" (rRem X.K) := by
  intro pins s σ H x vs v us Q I rx rv h
  obtain ⟨l, y, W, S, d, ds, xs, j, rfl, rfl, hH, hr, vy, ok, hj, q⟩ := h
  cases rx
  obtain ⟨u, rfl, ru⟩ := rv.one
  obtain ⟨z, its, n, r, hl, e0⟩ := I.lstM hH
  obtain ⟨o1, o2, o3⟩ := okIn_p ok
  obtain ⟨bs, r1⟩ := vy.reads I ru o2
  obtain ⟨as, r2⟩ := RepL.reads I ds _ its hr r o1
  have hdep : X.A.units + 1 + min (PyData.depthAll (toPDs ds)) (toPD d).depth < cLine := by
    have : min (PyData.depthAll (toPDs ds)) (toPD d).depth ≤ 100 := o3
    omega
  have heq := SeqAt.items_eqAt (A := X.A) (vs := its.toArray) (by simpa using r2) r1 o1 o2 hdep
  have hmap := SeqAt.readsAll_map _ _ _ o1 r2
  have hlen : its.length = ds.length := by rw [hr.length, ← hl]
  have at_ : ∀ (i : Nat) (h1 : i < its.length) (h2 : i < ds.length), PyData.eqv (SeqAt.readOf s.heap its[i]) (toPD d) = eqD ds[i] d := fun i h1 h2 => by
    have e1 : (its.map (SeqAt.readOf s.heap))[i]? = some (SeqAt.readOf s.heap its[i]) := by rw [List.getElem?_map, List.getElem?_eq_getElem h1]; rfl
    rw [hmap, toPDs_get, List.getElem?_eq_getElem h2] at e1
    have e1 := Option.some.inj e1
    show PyData.eqv (SeqAt.readOf s.heap its[i]) (toPD d) = PyData.eqv (toPD ds[i]) (toPD d)
    rw [← e1]
  obtain ⟨hjl, hj1, hj2⟩ := List.findIdx?_eq_some_iff_getElem.mp hj
  refine call_meets PySem.F.slot_list_remove ⟨_, e0, rfl⟩ PySem.F.entry_list_remove (PySem.F.args_list_remove_2 _ _)
    (PySem.SeqAt.list_removeAt l its.toArray n none #[] u (fun y => PyData.eqv (SeqAt.readOf s.heap y) (toPD d)) j (by rw [List.size_toArray]; omega) ?hit (fun i hi2 hlt => ?hno) (by rw [List.size_toArray, ← hl]; exact z)) ⟨e0, heq, ?_⟩
  case hit =>
    show PyData.eqv (SeqAt.readOf s.heap its[j]) (toPD d) = true
    rw [at_ j (by omega) hjl]
    exact hj1
  case hno =>
    have hi3 : i < its.length := by rw [List.size_toArray] at hi2; exact hi2
    show PyData.eqv (SeqAt.readOf s.heap its[i]) (toPD d) = false
    rw [at_ i hi3 (by omega)]
    have := hj2 i hlt
    simpa using this
  refine ⟨.non, _, I.lset (its' := its.eraseIdx j) hH e0 ?_ (r.eraseIdx j) ?_, rfl, q⟩
  · show its.toArray.eraseIdxIfInBounds j = (its.eraseIdx j).toArray
    rw [List.eraseIdxIfInBounds_toArray]
  · have := List.length_eraseIdx_le xs j
    omega
theorem sS_rem {i : Nat} {n : Str} {a : Expr} {x : E} {p apos cpos : Pos} (hu : X.A.units + 102 < cLine) (hKx : X.K = A.K) (hv : Ownish A i) (hN : X.N[i]? = some n) (hvis : Vis X.env.scope n) (hd : (n == ("__debug__" : Str)) = false) (hcd : (n == ("__classdict__" : Str)) = false)
    (hl : (apos.endLine == cpos.line) = true) (hst : notStar a = true) (ha : PE X a (tE (C := C) G A x)) : PS X (.Expr (.Call (.Attribute (.Name n p) "remove" apos) [a] [] cpos) pos) (tS C G A (.rem i x)) :=
  (ps_expr (pe_bm (o := .Name n p) PySem.F.plainAttrs_list PySem.F.slot_list_remove PySem.F.type_list_remove (mt_rem hu) (pe_var hN hvis hd hcd) (pa_cons ha pa_nil (star_cons hst)) rfl (few_one hst) hl (star_cons hst) rfl) rfl).weak fun D σ H ⟨S, e, r, e', R, h, P⟩ => by
    have P : PostS C A [i] S σ H D r e' := P
    rw [denS] at h
    obtain ⟨p, hs, ty, h⟩ := lst_start R hv h
    refine ⟨.ref p, hs, by rw [hKx]; exact ty, ?_⟩
    refine tE_then R h P.errE fun d e1 v H1 h1 k1 R1 v1 => ?_
    have vv := v1.vw R.celD
    cases g : getV e1 i with
    | none => rw [g] at h1; cases h1
    | some d0 =>
    rw [g] at h1
    have ob := own_at R1 hv hs g
    have sa : S p := (R1.own hv hs).1
    cases d0 with
    | lst ds =>
      obtain ⟨xs, q1, q2⟩ := ob
      simp only [Option.bind_some, remD] at h1
      split at h1
      · rename_i hok
        cases hj : ds.findIdx? fun z => eqD z d with
        | none => rw [hj] at h1; cases h1
        | some j =>
          rw [hj] at h1
          cases h1
          exact ⟨p, v, _, S, d, ds, xs, j, rfl, rfl, q1, by rw [hKx]; exact q2, by rw [hKx]; exact vv, hok, hj, mut_end (d' := .lst _) hv hs k1 R1 g (fun kp => ⟨_, upd_same, kp_one_rep sa kp (q2.eraseIdx j)⟩) P⟩
      · cases h1
    | _ => cases h1

/-! ### several names -/
def setAll : List Nat → List V → L2.St → L2.St
  | i :: is, v :: vs, σ => setAll is vs (σ.set i (some v))
  | _, _, σ => σ
def gNames (is : List Nat) : TGs := fun vs σ H Q => vs.length = is.length ∧ Q (setAll is vs σ) H
/-- the names on the left -/
def NamesOk (X : Cx) (ns : List Expr) (is : List Nat) : Prop := ∀ k : Nat, ∀ t i, ns[k]? = some t → is[k]? = some i → ∃ x p, t = .Name x p ∧ X.N[i]? = some x ∧ L2.Loc X.env.scope x ∧ (X.fn x = true ∨ X.env.scope.names.lookup x = some .local)
theorem NamesOk.tail {t : Expr} {ns : List Expr} {i : Nat} {is : List Nat} (h : NamesOk X (t :: ns) (i :: is)) : NamesOk X ns is := fun k t i a b => h (k + 1) t i (by simpa using a) (by simpa using b)
theorem pgs_names (hN : X.N.Nodup) : ∀ {ns : List Expr} {is : List Nat}, NamesOk X ns is → ns.length = is.length → PGs X ns (gNames is)
  | [], [], _, _ => PGsweak pgs_nil fun vs σ H Q h => by
    obtain ⟨h1, h2⟩ := h
    cases vs with
    | nil => exact ⟨rfl, h2⟩
    | cons v vs => cases h1
  | t :: ns, i :: is, h, hl => by
    obtain ⟨x, p, rfl, h1, h2, h3⟩ := h 0 t i rfl rfl
    refine PGsweak (pgs_cons (pg_name hN h1 h2 h3) (pgs_names hN h.tail (by simpa using hl)) rfl) fun vs σ H Q ⟨q1, q2⟩ => ?_
    cases vs with
    | nil => cases q1
    | cons v vs => exact ⟨v, vs, rfl, by simpa using q1, q2⟩
  | [], _ :: _, _, hl => by cases hl
  | _ :: _, [], _, hl => by cases hl
theorem names_star : ∀ {ns : List Expr} {is : List Nat}, NamesOk X ns is → ns.length = is.length → ns.all notStar = true
  | [], [], _, _ => rfl
  | t :: ns, i :: is, h, hl => by
    obtain ⟨x, p, rfl, _⟩ := h 0 t i rfl rfl
    rw [List.all_cons, names_star h.tail (by simpa using hl)]
    rfl
  | [], _ :: _, _, hl => by cases hl
  | _ :: _, [], _, hl => by cases hl
abbrev Par := List (Nat × Bool × E)
def ownPs : Par → List V → List Addr
  | (_, true, _) :: r, .ref p :: vs => p :: ownPs r vs
  | _ :: r, _ :: vs => ownPs r vs
  | _, _ => []
def ParR (A : Ac) (S' : AS) (H H' : Hp) : Par → List D → List V → Prop
  | [], ds, vs => ds = [] ∧ vs = []
  | (_, false, _) :: r, ds, vs => ∃ d ds' v vs', ds = d :: ds' ∧ vs = v :: vs' ∧ Rep A.K S' H' d v ∧ ParR A S' H H' r ds' vs'
  | (_, true, _) :: r, ds, vs => ∃ d ds' p vs', ds = d :: ds' ∧ vs = .ref p :: vs' ∧ H p = none ∧ S' p ∧ Ob A.K S' H' d p ∧ ParR A S' H H' r ds' vs'
def tP (G : Gam) (A : Ac) (ps : Par) : TA := fun σ H Q => ∃ S e r e', SR A S e σ H ∧ denPar G ps e = some (r, e') ∧ match r with
  | .ok ds => ∀ vs S' H', Kp (CelAt A σ) H H' → (∀ a, S a → S' a) → (∀ a, S' a → S a ∨ H a = none) → SR A S' e' σ H' → ParR A S' H H' ps ds vs → (ownPs ps vs).Nodup → Q vs H'
  | .error x => ∀ cls dd H', EndR A e' H' → ExR A H' x cls dd → A.XW cls dd H'
theorem tP.mono {ps : Par} {H : Hp} {Q Q' : List V → Hp → Prop} (m : ∀ vs H, Q vs H → Q' vs H) (h : tP G A ps σ H Q) : tP G A ps σ H Q' := by
  obtain ⟨S, e, r, e', R, h, P⟩ := h
  refine ⟨S, e, r, e', R, h, ?_⟩
  cases r with
  | error x => exact P
  | ok ds => exact fun vs S' H' a b c d f g => m _ _ (P vs S' H' a b c d f g)
theorem ParR.back {S' : AS} {H H1 H' : Hp} (b : ∀ p, H1 p = none → H p = none) : ∀ {ps : Par} {ds : List D} {vs : List V}, ParR A S' H1 H' ps ds vs → ParR A S' H H' ps ds vs
  | [], _, _, h => h
  | (_, false, _) :: r, _, _, ⟨d, ds, v, vs, e1, e2, h, t⟩ => ⟨d, ds, v, vs, e1, e2, h, ParR.back b t⟩
  | (_, true, _) :: r, _, _, ⟨d, ds, v, vs, e1, e2, h1, h2, h3, t⟩ => ⟨d, ds, v, vs, e1, e2, b _ h1, h2, h3, ParR.back b t⟩
theorem ParR.none {S' : AS} {H H' : Hp} : ∀ {ps : Par} {ds : List D} {vs : List V}, ParR A S' H H' ps ds vs → ∀ p ∈ ownPs ps vs, H p = none ∧ S' p
  | [], _, _, ⟨_, e⟩, p, hp => by subst e; exact nomatch hp
  | (_, false, _) :: r, _, _, ⟨d, ds, v, vs, e1, e2, h, t⟩, p, hp => by
    subst e2
    have hp : p ∈ ownPs r vs := by cases v <;> exact hp
    exact ParR.none t p hp
  | (_, true, _) :: r, _, _, ⟨d, ds, v, vs, e1, e2, h1, h2, h3, t⟩, p, hp => by
    subst e2
    rcases List.mem_cons.mp hp with rfl | hp
    · exact ⟨h1, h2⟩
    · exact ParR.none t p hp
theorem sP_nil : PA X [] (tP G A []) := PAweak pa_nil fun σ H Q ⟨S, e, r, e', R, h, P⟩ => by
  cases h
  exact P [] S H (Kp.refl _ _) (fun _ z => z) (fun _ z => .inl z) R ⟨rfl, rfl⟩ List.nodup_nil
theorem wide_rep {S S' : AS} {W : AS} {H H' : Hp} (n : ∀ a, S' a → S a ∨ H a = none) (k : Kp W H H') (hw : ∀ a, W a → S a) {d : D} {v : V} (h : Rep A.K S H d v) : Rep A.K S' H' d v :=
  ((h.avoid (S' := fun a => S a ∨ S' a) fun b z => z.elim .inl (n b)).kp k fun b z => .inl (hw b z)).avoid fun b z => .inl (.inr z)
theorem wide_ob {S S' : AS} {W : AS} {H H' : Hp} (n : ∀ a, S' a → S a ∨ H a = none) (k : Kp W H H') (hw : ∀ a, W a → S a) {d : D} {p : Addr} (hp : ¬ W p) (h : Ob A.K S H d p) : Ob A.K S' H' d p :=
  ((h.avoid (S' := fun a => S a ∨ S' a) fun b z => z.elim .inl (n b)).kp k (fun b z => .inl (hw b z)) hp).avoid fun b z => .inl (.inr z)
theorem sP_val {i : Nat} {x : E} {r : Par} {a : Expr} {as : List Expr} (hk : kdE C x = .fr ∨ kdE C x = .vl) (hs : notStar a = true) (ha : PE X a (tE (C := C) G A x)) (hr : PA X as (tP G A r)) : PA X (a :: as) (tP G A ((i, false, x) :: r)) := by
  refine PAweak (pa_cons ha hr (star_cons hs)) fun σ H Q ⟨S, e, r0, e', R, h, P⟩ => ?_
  rw [denPar] at h
  refine tE_then R h (fun y hy cls dd H' _ R' ex => by subst hy; exact P cls dd H' R'.endR ex) fun d e1 v H1 h1 k1 R1 v1 => ?_
  have rv := v1.rep R.dom hk
  cases q : denPar G r e1 with
  | none => rw [q] at h1; cases h1
  | some o =>
    obtain ⟨r2, e2⟩ := o
    rw [q] at h1
    refine ⟨S, e1, r2, e2, R1, q, ?_⟩
    cases r2 with
    | error y => cases h1; exact P
    | ok ds =>
      cases h1
      intro vs S' H' k2 s1 s2 R2 pr nd
      have bk : ∀ p, H1 p = none → H p = none := fun p z => none_back k1 z
      refine P (v :: vs) S' H' (k1.trans k2) s1 (fun a z => (s2 a z).imp id (bk a)) R2 ⟨d, ds, v, vs, rfl, rfl, wide_rep s2 k2 R1.celS rv, pr.back bk⟩ ?_
      cases v <;> exact nd
theorem sP_own {i : Nat} {x : E} {r : Par} {a : Expr} {as : List Expr} (hk : kdE (C.pv []) x = .fr ∨ kdE (C.pv []) x = .fo) (hs : notStar a = true) (ha : PE X a (tEp C G A x)) (hr : PA X as (tP G A r)) : PA X (a :: as) (tP G A ((i, true, x) :: r)) := by
  refine PAweak (pa_cons ha hr (star_cons hs)) fun σ H Q ⟨S, e, r0, e', R, h, P⟩ => ?_
  rw [denPar] at h
  cases q0 : denE G x e with
  | none => rw [q0] at h; cases h
  | some o =>
  obtain ⟨r1, e1⟩ := o
  rw [q0] at h
  refine pure_new R hk q0 (fun y hy cls dd H' R' ex => ?_) fun d hd => ?_
  · subst hy
    cases h
    exact P cls dd H' R'.endR ex
  · subst hd
    simp only at h
    split at h
    · rename_i ho
      refine ⟨ho, fun p H1 xt hn R1 ob => ?_⟩
      cases q : denPar G r e with
      | none => rw [q] at h; cases h
      | some o =>
        obtain ⟨r2, e2⟩ := o
        rw [q] at h
        refine ⟨plusA S p, e, r2, e2, R1, q, ?_⟩
        cases r2 with
        | error y => cases h; exact P
        | ok ds =>
          cases h
          intro vs S' H' k2 s1 s2 R2 pr nd
          have bk : ∀ p, H1 p = none → H p = none := fun p z => none_back xt z
          refine P (.ref p :: vs) S' H' ((xt.mono fun _ z => z.elim).trans k2) (fun a z => s1 a (.inl z)) (fun a z => ?_) R2 ⟨d, ds, p, vs, rfl, rfl, hn, s1 p (.inr rfl), wide_ob s2 k2 R1.celS (fun z => R.celD p z hn) ob, pr.back bk⟩ (List.nodup_cons.mpr ⟨fun z => ?_, nd⟩)
          · rcases s2 a z with (z | z) | z
            · exact .inl z
            · exact .inr (by rw [z]; exact hn)
            · exact .inr (bk a z)
          · exact ob.dom (pr.none p z).1
    · cases h
/-- the flags fit the slots -/
def ParOk (A : Ac) (ps : Par) : Prop := ∀ q ∈ ps, if q.2.1 = true then Ownish A q.1 ∧ ∀ z ∈ A.pcs, z.1 ≠ q.1 else A.ks[q.1]? = some .val
theorem par_set {S' : AS} {H H' : Hp} : ∀ {ps : Par} {ds : List D} {vs : List V} {e : Envd} {σ : L2.St}, ParOk A ps → SR A S' e σ H' → ParR A S' H H' ps ds vs → (ownPs ps vs).Nodup → (∀ p ∈ ownPs ps vs, ¬ OwnAt A σ p ∧ A.H0 p = none ∧ ¬ A.bo p) →
    SR A S' (parS ps ds e) (setAll (ps.map (·.1)) vs σ) H'
  | [], _, _, _, _, _, R, ⟨e1, e2⟩, _, _ => by subst e1 e2; exact R
  | (i, false, x) :: r, _, _, e, σ, ok, R, ⟨d, ds, v, vs, e1, e2, h, t⟩, nd, hp => by
    subst e1 e2
    have hk : A.ks[i]? = some .val := ok (i, false, x) List.mem_cons_self
    have en : ownPs ((i, false, x) :: r) (v :: vs) = ownPs r vs := by cases v <;> rfl
    rw [en] at nd hp
    have ok' : ParOk A r := fun q hq => ok q (List.mem_cons_of_mem _ hq)
    exact par_set (ps := r) (ds := ds) (vs := vs) (e := e.set i (some d)) (σ := σ.set i (some v)) ok' (R.setVal hk h) t nd fun p z => ⟨fun w => (hp p z).1 ((ownAt_set hk).mp w), (hp p z).2⟩
  | (i, true, x) :: r, _, _, e, σ, ok, R, ⟨d, ds, q, vs, e1, e2, h1, h2, h3, t⟩, nd, hp => by
    subst e1 e2
    obtain ⟨hi, hpc⟩ : Ownish A i ∧ ∀ z ∈ A.pcs, z.1 ≠ i := ok (i, true, x) List.mem_cons_self
    obtain ⟨n1, n2⟩ := List.nodup_cons.mp (show (q :: ownPs r vs).Nodup from nd)
    obtain ⟨z1, z2, z3⟩ := hp q List.mem_cons_self
    have ok' : ParOk A r := fun q hq => ok q (List.mem_cons_of_mem _ hq)
    refine par_set (ps := r) (ds := ds) (vs := vs) (e := e.set i (some d)) (σ := σ.set i (some (.ref q))) ok' (R.setOwn hi hpc h2 z2 z1 z3 h3) t n2 fun p z => ⟨?_, (hp p (List.mem_cons_of_mem _ z)).2⟩
    rintro ⟨j, hj, w⟩
    by_cases ij : i = j
    · subst ij
      have hl := (List.getElem?_eq_some_iff.mp w).1
      rw [List.length_set] at hl
      rw [List.getElem?_set_self hl] at w
      cases w
      exact n1 z
    · rw [List.getElem?_set_ne ij] at w
      exact (hp p (List.mem_cons_of_mem _ z)).1 ⟨j, hj, w⟩
theorem setAll_out {j : Nat} : ∀ {is : List Nat} {vs : List V} {σ : L2.St}, j ∉ is → (setAll is vs σ)[j]? = σ[j]?
  | [], vs, σ, _ => by cases vs <;> rfl
  | i :: is, [], σ, _ => rfl
  | i :: is, v :: vs, σ, h => by
    show (setAll is vs (σ.set i (some v)))[j]? = σ[j]?
    rw [setAll_out fun z => h (List.mem_cons_of_mem _ z), List.getElem?_set_ne (fun (z : i = j) => h (by rw [z]; exact List.mem_cons_self))]
theorem setAll_own {S' : AS} {H H' : Hp} {j : Nat} {a : Addr} (hj : Ownish A j) : ∀ {ps : Par} {ds : List D} {vs : List V} {σ : L2.St}, ParOk A ps → ParR A S' H H' ps ds vs → (setAll (ps.map (·.1)) vs σ)[j]? = some (some (V.ref a)) → σ[j]? = some (some (V.ref a)) ∨ H a = none
  | [], _, _, _, _, ⟨e1, e2⟩, h => by subst e2; exact .inl h
  | (i, false, x) :: r, _, _, σ, ok, ⟨d, ds, v, vs, e1, e2, _, t⟩, h => by
    subst e1 e2
    have hk : A.ks[i]? = some .val := ok (i, false, x) List.mem_cons_self
    have ok' : ParOk A r := fun q hq => ok q (List.mem_cons_of_mem _ hq)
    rcases setAll_own hj ok' t h with z | z
    · rw [List.getElem?_set_ne (fun q => by subst q; exact not_ownish hk hj)] at z
      exact .inl z
    · exact .inr z
  | (i, true, x) :: r, _, _, σ, ok, ⟨d, ds, q, vs, e1, e2, h1, _, _, t⟩, h => by
    subst e1 e2
    have ok' : ParOk A r := fun q hq => ok q (List.mem_cons_of_mem _ hq)
    rcases setAll_own hj ok' t h with z | z
    · by_cases ij : i = j
      · subst ij
        have hl := (List.getElem?_eq_some_iff.mp z).1
        rw [List.length_set] at hl
        rw [List.getElem?_set_self hl] at z
        cases z
        exact .inr h1
      · rw [List.getElem?_set_ne ij] at z
        exact .inl z
    · exact .inr z
theorem ParR.len {S' : AS} {H H' : Hp} : ∀ {ps : Par} {ds : List D} {vs : List V}, ParR A S' H H' ps ds vs → vs.length = ps.length
  | [], _, _, ⟨_, e⟩ => by subst e; rfl
  | (_, false, _) :: r, _, _, ⟨d, ds, v, vs, e1, e2, _, t⟩ => by subst e2; rw [List.length_cons, List.length_cons, ParR.len t]
  | (_, true, _) :: r, _, _, ⟨d, ds, v, vs, e1, e2, _, _, _, t⟩ => by subst e2; rw [List.length_cons, List.length_cons, ParR.len t]
theorem par_go {ps : Par} {D : L2.Ends} {H : Hp} (ok : ParOk A ps) (h : tS C G A (.par ps) D σ H) : tP G A ps σ H fun vs H1 => vs.length = ps.length ∧ ∀ H2, Ext H1 H2 → D.nx (setAll (ps.map (·.1)) vs σ) H2 := by
  obtain ⟨S, e, r, e', R, h, P⟩ := h
  rw [denS] at h
  cases q : denPar G ps e with
  | none => rw [q] at h; cases h
  | some o =>
    obtain ⟨r1, e1⟩ := o
    rw [q] at h
    refine ⟨S, e, r1, e1, R, q, ?_⟩
    cases r1 with
    | error y => cases h; exact P
    | ok ds =>
      cases h
      intro vs S' H1 k1 s1 s2 R1 pr nd
      refine ⟨pr.len, fun H2 xt => ?_⟩
      have R2 := R1.ext xt
      have pr2 : ParR A S' H H2 ps ds vs := by
        have ex : ∀ {ps : Par} {ds : List Rf.D} {vs : List V}, ParR A S' H H1 ps ds vs → ParR A S' H H2 ps ds vs := by
          intro ps
          induction ps with
          | nil => exact fun h => h
          | cons q r ih =>
            intro ds vs h
            obtain ⟨i, o, x⟩ := q
            have no : ∀ b, (fun (_ : Addr) => False) b → S' b := fun b z => z.elim
            cases o with
            | false => obtain ⟨d, ds, v, vs, e1, e2, h, t⟩ := h; exact ⟨d, ds, v, vs, e1, e2, h.kp (Kp.ext xt) no, ih t⟩
            | true => obtain ⟨d, ds, v, vs, e1, e2, h1, h2, h3, t⟩ := h; exact ⟨d, ds, v, vs, e1, e2, h1, h2, h3.kp (Kp.ext (W := fun _ => False) xt) no fun z => z, ih t⟩
        exact ex pr
      have key := par_set ok R2 pr2 nd fun p z => ⟨fun w => R.ownD p w (pr2.none p z).1, R.h0 (pr2.none p z).1, fun w => (R.bo p w).1 (pr2.none p z).1⟩
      refine P S' _ H2 ⟨(k1.trans (Kp.ext xt)).mono fun a z => .inl z, s2, fun i a hi z => setAll_own hi ok pr2 z, fun i hi hm => setAll_out fun z => ?_⟩ key
      obtain ⟨q, hq, rfl⟩ := List.mem_map.mp z
      have := ok q hq
      by_cases o : q.2.1 = true
      · exact hm (by rw [mutS]; exact List.mem_map.mpr ⟨q, List.mem_filter.mpr ⟨hq, o⟩, rfl⟩)
      · rw [if_neg o] at this
        exact not_ownish this hi
/-- the plain way: a tuple, then its items -/
theorem sS_par {ns es : List Expr} {ps : Par} {k k2 : Nat} {pt pt2 : Pos} (hK : X.K = A.K) (hc : X.calm = true) (hN : X.N.Nodup) (ok : ParOk A ps) (hn : NamesOk X ns (ps.map (·.1))) (hl : ns.length = ps.length)
    (hl2 : ps.length ≤ 1000) (ha : PA X es (tP G A ps)) (hs : swapsWithSole [.Tuple ns k pt] (.Tuple es k2 pt2) pos.line X.env = pure false) (hw : swappedStores [.Tuple ns k pt] (.Tuple es k2 pt2) X.env = pure none) :
    PS X (.Assign [.Tuple ns k pt] (.Tuple es k2 pt2) pos) (tS C G A (.par ps)) := by
  have hl' : ns.length = (ps.map (·.1)).length := by rw [List.length_map]; exact hl
  have hst := names_star hn hl'
  refine (ps_asg (pe_tup ha) (pg_tup hc (pgs_names hN hn hl') ((assignEach_len hst).1.trans hl') (assignEach_len hst).2) hs hw rfl).weak fun D σ H h => ?_
  refine (par_go ok h).mono fun vs H1 ⟨l1, nx⟩ => ⟨by rw [lim_eq]; show vs.length ≤ 16777216; omega, fun p hp => ?_⟩
  refine ⟨p, vs, rfl, SqT.of upd_same, by rw [l1, List.length_map], by rw [l1, List.length_map], nx _ (Ext.new hp)⟩
theorem sS_par2 {x y : Str} {a b : Expr} {i j : Nat} {o1 o2 : Bool} {q1 q2 : E} {px py pt : Pos} {kt k2 : Nat} {pt2 : Pos} (hc : X.calm = true) (hN : X.N.Nodup) (ok : ParOk A [(i, o1, q1), (j, o2, q2)]) (hi : X.N[i]? = some x) (hj : X.N[j]? = some y) (hij : i ≠ j)
    (hx : X.env.scope.names.lookup x = some .local) (hy : X.env.scope.names.lookup y = some .local) (ha : PA X [a, b] (tP G A [(i, o1, q1), (j, o2, q2)]))
    (hw : swappedStores [.Tuple [.Name x px, .Name y py] kt pt] (.Tuple [a, b] k2 pt2) X.env = pure (some [x, y])) :
    PS X (.Assign [.Tuple [.Name x px, .Name y py] kt pt] (.Tuple [a, b] k2 pt2) pos) (tS C G A (.par [(i, o1, q1), (j, o2, q2)])) :=
  (ps_par hc hN hi hj hij hx hy ha hw rfl).weak fun D σ H h => (par_go ok h).mono fun vs H1 ⟨l1, nx⟩ => by
    match vs, l1 with
    | [v, w], _ => exact ⟨v, w, rfl, nx H1 (Ext.refl _)⟩
theorem sS_par3 {x y z : Str} {a b c : Expr} {i j l : Nat} {o1 o2 o3 : Bool} {q1 q2 q3 : E} {px py pz pt : Pos} {kt k2 : Nat} {pt2 : Pos} (hc : X.calm = true) (hN : X.N.Nodup) (ok : ParOk A [(i, o1, q1), (j, o2, q2), (l, o3, q3)]) (hi : X.N[i]? = some x) (hj : X.N[j]? = some y) (hl : X.N[l]? = some z)
    (hij : i ≠ j) (hil : i ≠ l) (hjl : j ≠ l) (hx : X.env.scope.names.lookup x = some .local) (hy : X.env.scope.names.lookup y = some .local) (hz : X.env.scope.names.lookup z = some .local) (ha : PA X [a, b, c] (tP G A [(i, o1, q1), (j, o2, q2), (l, o3, q3)]))
    (hw : swappedStores [.Tuple [.Name x px, .Name y py, .Name z pz] kt pt] (.Tuple [a, b, c] k2 pt2) X.env = pure (some [x, y, z])) :
    PS X (.Assign [.Tuple [.Name x px, .Name y py, .Name z pz] kt pt] (.Tuple [a, b, c] k2 pt2) pos) (tS C G A (.par [(i, o1, q1), (j, o2, q2), (l, o3, q3)])) :=
  (ps_par3 hc hN hi hj hl hij hil hjl hx hy hz ha hw rfl).weak fun D σ H h => (par_go ok h).mono fun vs H1 ⟨l1, nx⟩ => by
    match vs, l1 with
    | [u, v, w], _ => exact ⟨u, v, w, rfl, nx H1 (Ext.refl _)⟩

/-! ### raise -/
theorem sS_rse {j : Nat} {a : Expr} (hc : X.calm = true) (tk : L2N.Takes X (fun cls d _ H => A.XW cls d H)) (he : L2N.PMk X a (fun _ H Q => Q (.ref (A.ca j)) none H)) : PS X (.Raise (some a) none pos) (tS C G A (.rse j)) :=
  (L2N.ps_raise hc tk he).weak fun D σ H ⟨S, e, r, e', R, h, P⟩ => by
    rw [denS] at h
    cases h
    exact P _ _ H R.endR ⟨rfl, rfl⟩
end Rf

set_option maxRecDepth 100000
set_option maxHeartbeats 2000000
/-! Rf25: list(zip(a, b)) of lists. -/
namespace Rf
open PySem PySem.Spec PyProof.Rows L2
variable [TN]
variable {X : Cx} {A1 : Around} {pins : List (Addr × Obj)} {σ : L2.St} {a b z TI TO i1 i2 q : Addr}

/-- the pairs of the rest -/
def prs (H : Hp) : List V → List V → List V → Prop
  | [], xs, ys => xs = [] ∨ ys = []
  | t :: ts, xs, ys => ∃ x xs' y ys' T, xs = x :: xs' ∧ ys = y :: ys' ∧ t = .ref T ∧ H T = some (.tup [x, y]) ∧ prs H ts xs' ys'
theorem prs.keep {H H' : Hp} (k : ∀ c xs, H c = some (.tup xs) → H' c = some (.tup xs)) : ∀ {ts xs ys : List V}, prs H ts xs ys → prs H' ts xs ys
  | [], _, _, h => h
  | t :: ts, _, _, ⟨x, xs, y, ys, T, e1, e2, e3, h, r⟩ => ⟨x, xs, y, ys, T, e1, e2, e3, k _ _ h, r.keep k⟩
/-- the zip between two turns -/
def ZSt (a b z TI TO i1 i2 : Addr) (i : Nat) (h : Heap) : Prop :=
  ((IsZip h z TI TO .none) ∨ ∃ T f oT, IsZipHeld h z TI TO T f ∧ h.get? T = some oT ∧ oT.cls = .type "tuple") ∧ IsPair h TI (.ref i1) (.ref i2) ∧ (∃ x y, IsPair h TO x y) ∧ h.IsListIter i1 a i ∧ h.IsListIter i2 b i
theorem ZSt.obj {i : Nat} {h : Heap} (st : ZSt a b z TI TO i1 i2 i h) : ∀ c ∈ [z, TI, TO, i1, i2], ∃ o, h.get? c = some o ∧ ∀ n xs, o.data ≠ .seq xs n ∨ o.cls = .type "tuple" := fun c hc => by
  obtain ⟨hz, hTI, ⟨x, y, hTO⟩, ⟨o1, e1, _, d1⟩, ⟨o2, e2, _, d2⟩⟩ := st
  have e' : c = z ∨ c = TI ∨ c = TO ∨ c = i1 ∨ c = i2 := by simpa using hc
  rcases e' with w | w | w | w | w
  · rw [w]
    rcases hz with hz | ⟨T, f, oT, hz, _⟩
    · exact ⟨_, hz, fun n xs => .inl fun z => nomatch z⟩
    · exact ⟨_, hz, fun n xs => .inl fun z => nomatch z⟩
  · rw [w]; exact ⟨_, hTI, fun n xs => .inr rfl⟩
  · rw [w]; exact ⟨_, hTO, fun n xs => .inr rfl⟩
  · rw [w]; exact ⟨o1, e1, fun n xs => .inl fun z => by rw [d1] at z; cases z⟩
  · rw [w]; exact ⟨o2, e2, fun n xs => .inl fun z => by rw [d2] at z; cases z⟩
theorem ZSt.keep {i : Nat} {h h' : Heap} (st : ZSt a b z TI TO i1 i2 i h) (k : ∀ c o, c ≠ q → h.get? c = some o → h'.get? c = some o) (hq : ∀ c ∈ [z, TI, TO, i1, i2], c ≠ q) (hl : ∃ o, h.get? q = some o ∧ o.cls = .type "list") : ZSt a b z TI TO i1 i2 i h' := by
  obtain ⟨hz, hTI, ⟨x, y, hTO⟩, h1, h2⟩ := st
  refine ⟨?_, k TI _ (hq TI (by simp)) hTI, ⟨x, y, k TO _ (hq TO (by simp)) hTO⟩, h1.at fun o e => k i1 o (hq i1 (by simp)) e, h2.at fun o e => k i2 o (hq i2 (by simp)) e⟩
  rcases hz with hz | ⟨T, f, oT, hz, hT, hc⟩
  · exact .inl (k z _ (hq z (by simp)) hz)
  · refine .inr ⟨T, f, oT, k z _ (hq z (by simp)) hz, k T _ (fun e => ?_) hT, hc⟩
    obtain ⟨o, e1, c1⟩ := hl
    rw [e, e1] at hT
    cases hT
    rw [c1] at hc
    exact absurd hc (by decide)
theorem zl_loop {Rs : Result → Shared → Prop} (hh : A1.in1.handled = none) (D : ZipApart z TI TO i1 i2 a b) {xs ys : List V} :
    ∀ (n i : Nat) (acc : List V) (H : Hp) (s : Shared), Inv X pins σ H s → ZSt a b z TI TO i1 i2 i s.heap → SqL X.K H a xs → SqL X.K H b ys → H q = some (.lst acc) → a ≠ q → b ≠ q → (∀ c ∈ [z, TI, TO, i1, i2], FpOk X pins H c) → acc.length = i → min xs.length ys.length - i = n →
      (∀ ts H' s', Inv X pins σ H' s' → (∀ c o, c ≠ q → H c = some o → H' c = some o) → H' q = some (.lst (acc ++ ts)) → prs H' ts (xs.drop i) (ys.drop i) → Rs (.ok (.ret .none)) s') →
      codeAny (model X.prog X.w) A1 (.builtin "list.extend.loop" ⟨[.ref q, .ref z, .none], []⟩) Rs s := by
  intro n
  induction n with
  | zero =>
    intro i acc H s I st hqx hqy hq haq hbq hf hl hn hR
    obtain ⟨hz, hTI, ⟨x0, y0, hTO⟩, h1, h2⟩ := st
    obtain ⟨its, rv, p, _⟩ := I.list hqx
    obtain ⟨its2, rv2, p2, _⟩ := I.list hqy
    have l1 := rv.length
    have l2 := rv2.length
    have he : its.toArray[i]? = none ∨ its2.toArray[i]? = none := by
      by_cases w : xs.length ≤ i
      · exact .inl (by simp; omega)
      · exact .inr (by simp; omega)
    have hend : xs.drop i = [] ∨ ys.drop i = [] := by
      by_cases w : xs.length ≤ i
      · exact .inl (List.drop_eq_nil_of_le w)
      · exact .inr (List.drop_eq_nil_of_le (by omega))
    refine codeAny_builtin PySem.F.entry_extend_loop ?_
    rw [Around.under_plainId PySem.F.plain_extend_loop _]
    show wpAny _ A1.in1 (pyNext (.ref z) >>= _) _ _ s
    have fin : ∀ h', (∀ c o, c ∉ [z, TI, TO, i1, i2] → s.heap.get? c = some o → h'.get? c = some o) → Rs (.ok (.ret .none)) { s with heap := h' } := fun h' hk => by
      have I1 : Inv X pins σ H { s with heap := h' } := I.turnedL (t' := s.toks) (ch := [z, TI, TO, i1, i2]) hk hf
      exact hR [] H _ I1 (fun c o _ e => e) (by rw [List.append_nil]; exact hq) hend
    rcases hz with hz | ⟨T, f, oT, hz, hT, hc⟩
    · exact wpAny_bind (wpAny_pyNext_zip_end hh D hz hTI hTO h1 h2 p.isList p2.isList he fun h' hk => wpAny_pure (fin h' fun c o hb e => hk c o (fun w => hb (by simp [w])) (fun w => hb (by simp [w])) (fun w => hb (by simp [w])) (fun w => hb (by simp [w])) e))
    · exact wpAny_bind (wpAny_pyNext_zip_end_held hh D hz hT hTI h1 h2 p.isList p2.isList he fun h' hk => wpAny_pure (fin h' fun c o hb e => hk c o (fun w => hb (by simp [w])) (fun w => hb (by simp [w])) (fun w => hb (by simp [w])) e))
  | succ n ih =>
    intro i acc H s I st hqx hqy hq haq hbq hf hl hn hR
    have cq : ∀ c ∈ [z, TI, TO, i1, i2], c ≠ q := fun c hc e => by
      have := (hf c hc).1
      rw [e, hq] at this
      cases this
    have csz : ∀ c ∈ [z, TI, TO, i1, i2], c < s.heap.objs.size := fun c hc => let ⟨o, e, _⟩ := st.obj c hc; Heap.lt_size e
    obtain ⟨hz, hTI, ⟨x0, y0, hTO⟩, h1, h2⟩ := st
    obtain ⟨its, rv, p, zx⟩ := I.list hqx
    obtain ⟨its2, rv2, p2, zy⟩ := I.list hqy
    have l1 := rv.length
    have l2 := rv2.length
    have hix : i < xs.length := by omega
    have hiy : i < ys.length := by omega
    obtain ⟨u, hu, ru⟩ := rv.get (List.getElem?_eq_getElem hix)
    obtain ⟨u2, hu2, ru2⟩ := rv2.get (List.getElem?_eq_getElem hiy)
    have hqs : q < s.heap.objs.size := by
      obtain ⟨_, _, _, _, _, e⟩ := I.lstM hq
      exact Heap.lt_size e
    refine codeAny_builtin PySem.F.entry_extend_loop ?_
    rw [Around.under_plainId PySem.F.plain_extend_loop _]
    show wpAny _ A1.in1 (pyNext (.ref z) >>= _) _ _ s
    have next : ∀ h', (∃ T f oT, IsZipHeld h' z TI TO T f ∧ h'.get? T = some oT ∧ oT.cls = .type "tuple") → (∃ x y, IsPair h' TO x y) → h'.IsListIter i1 a (i + 1) → h'.IsListIter i2 b (i + 1) → IsPair h' s.heap.objs.size u u2 →
        (∀ c o, c ∉ [z, TI, TO, i1, i2] → s.heap.get? c = some o → h'.get? c = some o) → IsPair h' TI (.ref i1) (.ref i2) →
        wpAny (model X.prog X.w) A1.in1 (updateSeq q (·.push (.ref s.heap.objs.size)) >>= fun _ => again (.builtin "list.extend.loop" ⟨[.ref q, .ref z, .none], []⟩))
          (fun fin s' => match fin with | .done f => Rs (.ok f) s' | .again c' => c'.quiet = true ∧ codeAny (model X.prog X.w) A1 c' Rs s') (fun e s' => Rs (.error e) s') { s with heap := h' } := fun h' z' TO' h1' h2' hT hk TI' => by
      have new : ObjOk X.prog X.w (upd H s.heap.objs.size (.tup [xs[i], ys[i]])) h' s.heap.objs.size (.tup [xs[i], ys[i]]) :=
        ⟨by show 2 ≤ sizeLine; decide, [u, u2], .cons ru (.cons ru2 .nil), ⟨_, hT, rfl, _, rfl⟩⟩
      have I1 : Inv X pins σ (upd H s.heap.objs.size (.tup [xs[i], ys[i]])) { s with heap := h' } := I.turnedNew (t' := s.toks) (ch := [z, TI, TO, i1, i2]) hk hf (Nat.le_refl _) new
      have hn0 : H s.heap.objs.size = none := I.hok.fresh (Nat.le_refl _)
      have hq' : upd H s.heap.objs.size (.tup [xs[i], ys[i]]) q = some (.lst acc) := by rw [upd_ne (Nat.ne_of_lt hqs)]; exact hq
      obtain ⟨zl, itq, kq, rq, hlq, eq⟩ := I1.lstM hq'
      have hlen : acc.length + 1 ≤ sizeLine := by omega
      refine wpAny_bind (wpAny_updateSeq eq rfl (wpAny_pure ⟨plainId_quiet PySem.F.plain_extend_loop _, ?_⟩) (by rw [List.size_toArray]; omega) (by show (itq.toArray.push _).size ≤ sizeLine + 1; rw [Array.size_push, List.size_toArray]; omega))
      have I2 := I1.lset (f := (·.push (.ref s.heap.objs.size))) (its' := itq ++ [.ref s.heap.objs.size]) (ys := acc ++ [V.ref s.heap.objs.size]) (t' := s.toks) hq' eq (by simp) (rq.append (.cons (show L2.RelV (V.ref s.heap.objs.size) (.ref s.heap.objs.size) from rfl) .nil)) (by rw [List.length_append, List.length_singleton]; exact hlen)
      have up : ∀ c o, c ≠ q → H c = some o → upd (upd H s.heap.objs.size (.tup [xs[i], ys[i]])) q (.lst (acc ++ [V.ref s.heap.objs.size])) c = some o := fun c o hc e => by
        rw [upd_ne hc, upd_ne (ne_of_none e hn0)]; exact e
      have sq : ∀ {l : List V} {c : Addr}, c ≠ q → SqL X.K H c l → SqL X.K (upd (upd H s.heap.objs.size (.tup [xs[i], ys[i]])) q (.lst (acc ++ [V.ref s.heap.objs.size]))) c l := fun hc h => by
        rcases h with (h | ⟨o, h⟩) | h
        · exact .inl (.inl (up _ _ hc h))
        · exact .inl (.inr ⟨o, up _ _ hc h⟩)
        · exact .inr h
      refine ih (i + 1) (acc ++ [V.ref s.heap.objs.size]) _ _ I2 ?_ (sq haq hqx) (sq hbq hqy) upd_same haq hbq (fun c hc => ⟨?_, (hf c hc).2⟩) (by rw [List.length_append, List.length_singleton, hl]) (by omega) fun ts H' s' I' k' hq'' pr => ?_
      · have st' : ZSt a b z TI TO i1 i2 (i + 1) h' := ⟨.inr z', TI', TO', h1', h2'⟩
        exact st'.keep (q := q) (fun c o hc e => (Heap.get?_update_other _ _ (Ne.symm hc)).trans e) cq ⟨_, eq, rfl⟩
      · rw [upd_ne (cq c hc), upd_ne (Nat.ne_of_lt (csz c hc))]
        exact (hf c hc).1
      · refine hR (V.ref s.heap.objs.size :: ts) H' s' I' (fun c o hc e => k' c o hc (up c o hc e)) (by rw [hq'', List.append_assoc]; rfl) ⟨xs[i], xs.drop (i + 1), ys[i], ys.drop (i + 1), _, List.drop_eq_getElem_cons hix, List.drop_eq_getElem_cons hiy, rfl, ?_, pr⟩
        refine k' _ _ (Nat.ne_of_gt hqs) ?_
        rw [upd_ne (Nat.ne_of_gt hqs), upd_same]
    rcases hz with hz | ⟨T, f, oT, hz, hT, hc⟩
    · refine wpAny_bind (wpAny_pyNext_zip_item D hz hTI hTO h1 h2 p.isList p2.isList (x := u) (y := u2) (by simpa using hu) (by simpa using hu2) fun h' z' TO' h1' h2' hT hsz hk => ?_)
      exact next h' ⟨_, false, _, z', hT, rfl⟩ ⟨_, _, TO'⟩ h1' h2' hT (fun c o hb e => hk c o (fun w => hb (by simp [w])) (fun w => hb (by simp [w])) (fun w => hb (by simp [w])) (fun w => hb (by simp [w])) e) (hk _ _ D.TIz D.TITO D.TIi1 D.TIi2 hTI)
    · refine wpAny_bind (wpAny_pyNext_zip_item_held D hz hT hTI h1 h2 p.isList p2.isList (x := u) (y := u2) (by simpa using hu) (by simpa using hu2) fun h' z' h1' h2' hT' hsz hk => ?_)
      have hTz : T ≠ z := fun e => by rw [e, hz] at hT; cases hT; exact (by decide : Value.type "zip" ≠ Value.type "tuple") hc
      have hTi1 : T ≠ i1 := fun e => by
        obtain ⟨o1, e1, c1, _⟩ := h1
        rw [e, e1] at hT; cases hT; rw [c1] at hc; exact absurd hc (by decide)
      have hTi2 : T ≠ i2 := fun e => by
        obtain ⟨o1, e1, c1, _⟩ := h2
        rw [e, e1] at hT; cases hT; rw [c1] at hc; exact absurd hc (by decide)
      exact next h' ⟨T, true, oT, z', hk _ _ hTz hTi1 hTi2 hT, hc⟩ ⟨_, _, hk _ _ D.TOz D.TOi1 D.TOi2 hTO⟩ h1' h2' hT' (fun c o hb e => hk c o (fun w => hb (by simp [w])) (fun w => hb (by simp [w])) (fun w => hb (by simp [w])) e) (hk _ _ D.TIz D.TIi1 D.TIi2 hTI)
theorem zip_no_len : typeLookup (.type "zip") "__len__" = pure none := by rw [typeLookup_type, builtinLookup_eq_fast]; kernel_rfl
theorem zip_no_hint : typeLookup (.type "zip") "__length_hint__" = pure none := by rw [typeLookup_type, builtinLookup_eq_fast]; kernel_rfl
/-- list(zip(a, b)) of two lists, by values -/
def rLz (K : PySem.W.Frag) (vs : List V) (H : Hp) (Q : VK) : Prop := ∃ a b xs ys, vs = [.ref a, .ref b] ∧ SqL K H a xs ∧ SqL K H b ys ∧ ∀ q ts H', H q = none → (∀ c o, H c = some o → H' c = some o) → H' q = some (.lst ts) → prs H' ts xs ys → Q (.ref q) H'
theorem pe_lz {e e2 : Expr} {ta : TA} {p p2 pos pos2 : Pos} {n m : Str} (hn : n = "list") (hm0 : m = "zip") (hc : X.calm = true) (hg : Gl X n) (hm : X.mg n = none) (hg2 : Gl X m) (hm2 : X.mg m = none) (ha : PA X [e, e2] ta) (hs : notStar e = true) (hs2 : notStar e2 = true) :
    PE X (.Call (.Name n p) [.Call (.Name m p2) [e, e2] [] pos2] [] pos) (fun σ H Q => ta σ H fun vs H1 => rLz X.K vs H1 Q) := by
  subst hn hm0
  refine ⟨fun pins s σ H Q I h => ?_⟩
  refine Call_ (ld_blt I hg hm PyProof.Rows.boot_list (PyProof.Rows.callWith_type1 (args_cons ?_ rfl) rfl rfl))
  refine Call_ (ld_blt I hg2 hm2 PyProof.Rows.boot_zip (PyProof.Rows.callWith_type1 (thn (ha.run pos2 pins s σ H _ I h) fun us s1 ⟨vs, H1, I1, r1, q1⟩ => ?_) (star_cons hs) (star_any (by simp [hs2]))))
  obtain ⟨a, b, xs, ys, ex, hqx, hqy, fin⟩ := q1
  subst ex
  obtain ⟨u1, u2, rfl, r1', r2'⟩ := r1.two
  cases r1'
  cases r2'
  obtain ⟨its, rv, p1, _⟩ := I1.list hqx
  obtain ⟨its2, rv2, p2', _⟩ := I1.list hqy
  have la : a < s1.heap.objs.size := p1.lt
  have lb : b < s1.heap.objs.size := p2'.lt
  refine call_zip_2 p1.isList p2'.isList fun h' hz hTI hTO h1 h2 hsz hk => args_nil ?_
  have I2 : Inv X pins σ H1 { s1 with heap := h' } := I1.kept (t' := s1.toks) hk
  have D := PySem.W.ktu_apart s1.heap.objs.size a b la lb
  have haq : a ≠ h'.objs.size := Nat.ne_of_lt (Nat.lt_of_lt_of_le la (by rw [hsz]; exact Nat.le_add_right _ _))
  have hbq : b ≠ h'.objs.size := Nat.ne_of_lt (Nat.lt_of_lt_of_le lb (by rw [hsz]; exact Nat.le_add_right _ _))
  have hlt : ∀ c ∈ [s1.heap.objs.size + 4, s1.heap.objs.size + 2, s1.heap.objs.size + 3, s1.heap.objs.size, s1.heap.objs.size + 1], c < h'.objs.size := fun c hcm => by
    have e' : c = s1.heap.objs.size + 4 ∨ c = s1.heap.objs.size + 2 ∨ c = s1.heap.objs.size + 3 ∨ c = s1.heap.objs.size ∨ c = s1.heap.objs.size + 1 := by simpa using hcm
    rw [hsz]
    rcases e' with w | w | w | w | w <;> (rw [w]; show (_ : Nat) < _; omega)
  generalize hzz : s1.heap.objs.size + 4 = z at *
  generalize hTT : s1.heap.objs.size + 2 = TI at *
  generalize hOO : s1.heap.objs.size + 3 = TO at *
  generalize h11 : s1.heap.objs.size + 1 = i2 at *
  generalize h00 : s1.heap.objs.size = i1 at *
  have fp : ∀ c ∈ [z, TI, TO, i1, i2], FpOk X pins H1 c := fun c hcm => by
    have e' : c = z ∨ c = TI ∨ c = TO ∨ c = i1 ∨ c = i2 := by simpa using hcm
    have hle : s1.heap.objs.size ≤ c := by
      rcases e' with w | w | w | w | w <;> omega
    exact I1.fpOk hle (I1.hok.fresh hle)
  refine callType_codes (Q₁ := fun obj s₂ => obj = .ref h'.objs.size ∧ s₂ = { s1 with heap := h'.push { cls := .type "list", data := .seq #[] } }) PySem.F.called_list (PySem.F.typeCall_list_1 _) PySem.F.entry_list_init
    (code_list_new _ ⟨rfl, rfl⟩) fun obj s₂ h₂ => ?_
  obtain ⟨rfl, rfl⟩ := h₂
  have hS : (h'.push { cls := .type "list", data := .seq #[] }).get? h'.objs.size = some { cls := .type "list", data := .seq #[] } := Heap.get?_push_size _ rfl
  refine ⟨⟨_, hS, rfl⟩, PySem.F.args_list_init_2 _ _, ?_⟩
  have fr : H1 h'.objs.size = none := I2.hok.fresh (Nat.le_refl _)
  have I3 : Inv X pins σ (upd H1 h'.objs.size (.lst [])) { s1 with heap := h'.push { cls := .type "list", data := .seq #[] } } := I2.lnew (its := []) (t' := s1.toks) .nil (Nat.zero_le _)
  show wpAny _ _ (do let old ← Builtin.List.listItems (.ref h'.objs.size); Builtin.List.listUpdate (.ref h'.objs.size) (fun _ => #[]); letGo old.toList.reverse; Builtin.List.listExtendWith (.ref h'.objs.size) (.ref z) .none) _ _ _
  refine wpAny_bind ?_
  unfold Builtin.List.listItems
  refine wpAny_bind (wpAny_seqItems hS rfl (wpAny_pure ?_))
  show wpAny _ _ (updateSeq h'.objs.size (fun _ => #[]) >>= fun _ => letGo (#[] : Array Value).toList.reverse >>= fun _ => Builtin.List.listExtendWith (.ref h'.objs.size) (.ref z) .none) _ _ _
  refine wpAny_bind (wpAny_updateSeq hS rfl ?_)
  have I4 := I3.lset (f := fun _ => #[]) (its := []) (its' := []) (ys := []) (t' := s1.toks) upd_same hS rfl .nil (Nat.zero_le _)
  rw [upd_upd] at I4
  refine wpAny_bind (wpAny_letGo ?_)
  have hzl : z < h'.objs.size := Heap.lt_size hz
  have hq4 := Heap.get?_update_self (Obj.mapSeq fun _ => #[]) hS rfl
  have k4 : ∀ c o, h'.get? c = some o → ((h'.push { cls := .type "list", data := .seq #[] }).update h'.objs.size (Obj.mapSeq fun _ => #[])).get? c = some o := fun c o e =>
    (Heap.get?_update_other _ _ (Nat.ne_of_gt (Heap.lt_size e))).trans (Heap.get?_push_of_some _ e)
  generalize hh4 : (h'.push { cls := .type "list", data := .seq #[] }).update h'.objs.size (Obj.mapSeq fun _ => #[]) = h4 at *
  have hz4 : IsZip h4 z TI TO .none := k4 _ _ hz
  have hT4 : Shared.TypeIs { s1 with heap := h4 } (.ref z) "zip" := ⟨_, hz4, rfl⟩
  unfold Builtin.List.listExtendWith
  refine wpAny_bind (wpAny_typeOf hT4 ?_)
  have g1 : Builtin.List.listSameRef (.ref h'.objs.size) (.ref z) = false := by simp [Builtin.List.listSameRef, Nat.ne_of_gt hzl]
  have g2 : (Value.type "zip" == Value.type "list") = false := by decide
  have g3 : (Value.type "zip" == Value.type "tuple") = false := by decide
  simp only [g1, g2, g3, Bool.or_false, Bool.false_eq_true, if_false]
  refine wpAny_bind (wpAny_pyIter_zip hz4 ?_)
  refine wpAny_bind (wpAny_holding ?_)
  unfold Builtin.List.listLengthHint
  refine wpAny_bind (wpAny_specialOf hT4 zip_no_len ?_)
  show wpAny _ _ (specialOf (Value.ref z) (Str.ofString "__length_hint__") >>= _) _ _ _
  refine wpAny_bind (wpAny_specialOf hT4 zip_no_hint ?_)
  refine wpAny_pure ?_
  have go : ∀ {h5 : Heap} {c5 : Nat}, Inv X pins σ (upd H1 h'.objs.size (.lst [])) { s1 with heap := h5 } → (∀ c o, h'.get? c = some o → h5.get? c = some o) →
      codeAny (model X.prog X.w) X.A.in1 (.builtin "list.extend.loop" ⟨[.ref h'.objs.size, .ref z, .none], []⟩) (wants (fun r s₂ => r = .none ∧ EP X pins σ Q (.ref h'.objs.size) s₂) X.xe) { s1 with heap := h5 } := fun {h5 c5} I5 k5 => by
    have sq : ∀ {l : List V} {c : Addr}, c ≠ h'.objs.size → SqL X.K H1 c l → SqL X.K (upd H1 h'.objs.size (.lst [])) c l := fun hc h => by
      rcases h with (h | ⟨o, h⟩) | h
      · exact .inl (.inl (by rw [upd_ne hc]; exact h))
      · exact .inl (.inr ⟨o, by rw [upd_ne hc]; exact h⟩)
      · exact .inr h
    refine zl_loop (A1 := X.A.in1) (I.ok.hd hc) D (min xs.length ys.length) 0 [] _ _ I5 ⟨.inl (k5 _ _ hz), k5 _ _ hTI, ⟨_, _, k5 _ _ hTO⟩, h1.at fun o e => k5 _ _ e, h2.at fun o e => k5 _ _ e⟩ (sq haq hqx) (sq hbq hqy) upd_same haq hbq (fun c hcm => ⟨?_, (fp c hcm).2⟩) rfl rfl
      fun ts H' s' I' k' hq' pr => ⟨rfl, .ref h'.objs.size, H', I', rfl, fin _ ts H' fr (fun c o e => k' c o (ne_of_none e fr) (by rw [upd_ne (ne_of_none e fr)]; exact e)) (by simpa using hq') (by simpa using pr)⟩
    rw [upd_ne ?_]
    · exact (fp c hcm).1
    · exact Nat.ne_of_lt (hlt c hcm)
  refine wpAny_ite_split (fun _ => ?_) (fun _ => wpAny_pure ⟨plainId_quiet PySem.F.plain_extend_loop _, go (c5 := 0) I4 k4⟩)
  refine wpAny_bind (wpAny_rule ?_)
  refine wpAny_bind ?_
  show wpAny _ _ (updateSeq h'.objs.size (·.push .none) >>= fun _ => updateSeq h'.objs.size (·.pop)) _ _ _
  refine wpAny_bind (wpAny_updateSeq hq4 rfl ?_)
  have I5 := I4.lset (f := (·.push Value.none)) (its' := [Value.none]) (ys := [.non]) (t' := s1.toks) upd_same hq4 (by simp) (.cons rfl .nil) (by rw [List.length_singleton, sizeLine_eq]; decide)
  have hq5 := Heap.get?_update_self (Obj.mapSeq (·.push Value.none)) hq4 rfl
  refine wpAny_updateSeq hq5 rfl ?_ (by show 1 ≤ sizeLine; rw [sizeLine_eq]; decide) (by show 0 ≤ sizeLine + 1; exact Nat.zero_le _)
  have I6 := I5.lset (f := (·.pop)) (its := [Value.none]) (its' := []) (ys := []) (t' := s1.toks) upd_same hq5 (by rfl) .nil (Nat.zero_le _)
  rw [upd_upd, upd_upd] at I6
  exact wpAny_pure ⟨plainId_quiet PySem.F.plain_extend_loop _, go (c5 := 0) I6 fun c o e => (Heap.get?_update_other _ _ (Nat.ne_of_gt (Heap.lt_size e))).trans ((Heap.get?_update_other _ _ (Nat.ne_of_gt (Heap.lt_size e))).trans (k4 c o e))⟩
theorem prs_rep {K : PySem.W.Frag} {S : AS} {H : Hp} : ∀ {ts xs ys : List V} {ds es : List D}, prs H ts xs ys → RepL K S H ds xs → RepL K S H es ys → RepL K S H (zipF ds es) ts
  | [], _, _, ds, es, h, r1, r2 => by
    rcases h with rfl | rfl
    · cases r1; cases es <;> exact .nil
    · cases r2; cases ds <;> exact .nil
  | t :: ts, _, _, ds, es, ⟨x, xs, y, ys, T, e1, e2, e3, h, r⟩, r1, r2 => by
    subst e1 e2 e3
    cases r1 with
    | cons a1 b1 =>
      cases r2 with
      | cons a2 b2 => exact .cons (.tup (.inl (.inl h)) (.cons a1 (.cons a2 .nil))) (prs_rep r b1 b2)
theorem sE_lzip {C : Cfg} {G : Gam} {A : Ac} {a b : Expr} {x y : E} {p p2 pos pos2 : Pos} {n m : Str} (hK : X.K = A.K) (hn : n = "list") (hm0 : m = "zip") (hc : X.calm = true) (hg : Gl X n) (hm : X.mg n = none) (hg2 : Gl X m) (hm2 : X.mg m = none) (hs : notStar a = true) (hs2 : notStar b = true)
    (ha : PE X a (tE (C := C) G A x)) (hb : PE X b (tE (C := C) G A y)) : PE X (.Call (.Name n p) [.Call (.Name m p2) [a, b] [] pos2] [] pos) (tE (C := C) G A (.lzip x y)) :=
  (pe_lz hn hm0 hc hg hm hg2 hm2 (pa_cons ha (pa_cons hb pa_nil (star_cons hs2)) (star_cons hs)) hs hs2).weak fun σ H Q ⟨S, e, r, e', R, h, P⟩ => by
    refine tE_then R (by simpa only [denE] using h) P.err fun d e1 v H1 h1 k1 R1 v1 => ?_
    refine tE_then R1 h1 (P.shift k1).err fun d2 e2 v2 H2 h2 k2 R2 v2' => ?_
    have w1 : Vw A.K (CelAt A σ) S H2 d v := (v1.vw R.celD).kp k2 R1.celS
    have w2 : Vw A.K (CelAt A σ) S H2 d2 v2 := v2'.vw R1.celD
    cases d with
    | lst ds =>
      cases d2 with
      | lst es =>
        cases h2
        obtain ⟨a1, xs, rfl, hq, rr⟩ := w1.lst
        obtain ⟨b1, ys, rfl, hq2, rr2⟩ := w2.lst
        refine ⟨a1, b1, xs, ys, rfl, by rw [hK]; exact hq, by rw [hK]; exact hq2, fun q ts H' hn xt hl pr => ?_⟩
        have nb : H q = none := none_back (k1.trans k2) hn
        have cv : ∀ {ds : List D} {xs : List V}, RepL A.K S H2 ds xs → RepL A.K (plusA S q) H' ds xs := fun r => (r.avoid (S' := plusA S q) fun b z => z.elim .inl fun e => .inr (by rw [e]; exact hn)).kp (W := fun _ => False) (Kp.ext xt) fun _ z => z.elim
        exact P (.ref q) H' ((k1.trans k2).trans (Kp.ext xt)) (R2.ext xt) ⟨⟨q, rfl, nb, ts, hl, prs_rep pr (cv rr) (cv rr2)⟩, rfl⟩
      | _ => cases h2
    | _ => cases h2
end Rf

set_option maxRecDepth 100000
set_option maxHeartbeats 2000000
/-! Rf26: len(set(xs)) of tuples of ints; xs[::-1]. -/
namespace Rf
open PySem PySem.Spec PyProof.Rows L2
variable [TN]

theorem ddL_mem {k : List Int} : ∀ {l : List (List Int)}, k ∈ ddL l ↔ k ∈ l
  | [] => Iff.rfl
  | x :: r => by
    unfold ddL
    split
    · rename_i h
      rw [ddL_mem, List.mem_cons]
      exact ⟨.inr, fun z => z.elim (fun e => by rw [e]; exact h) id⟩
    · rw [List.mem_cons, List.mem_cons, ddL_mem]
theorem ddL_nodup : ∀ l : List (List Int), (ddL l).Nodup
  | [] => List.nodup_nil
  | x :: r => by
    unfold ddL
    split
    · exact ddL_nodup r
    · rename_i h
      exact List.nodup_cons.mpr ⟨fun z => h (ddL_mem.mp z), ddL_nodup r⟩
theorem nodup_len {l m : List (List Int)} (h1 : l.Nodup) (h2 : m.Nodup) (h : ∀ k, k ∈ l ↔ k ∈ m) : l.length = m.length :=
  Nat.le_antisymm (h1.length_le_of_subset fun k z => (h k).mp z) (h2.length_le_of_subset fun k z => (h k).mpr z)
theorem RepL.tups {K : PySem.W.Frag} {S : AS} {H : Hp} : ∀ {ds : List D} {vs : List V} {ks : List (List Int)}, RepL K S H ds vs → tupsOf ds = some ks → ∃ L : List (Addr × List Int), vs = L.map (fun p => V.ref p.1) ∧ L.map (·.2) = ks ∧ ∀ p ∈ L, SqT K H p.1 (p.2.map V.int)
  | [], _, ks, r, h => by
    cases r
    cases h
    exact ⟨[], rfl, rfl, fun p z => nomatch z⟩
  | d :: ds, _, ks, r, h => by
    cases r with
    | @cons _ _ v vs r rr =>
      cases d with
      | tup xs =>
        unfold tupsOf at h
        cases h1 : intsOf xs with
        | none => rw [h1] at h; cases h
        | some ns =>
          cases h2 : tupsOf ds with
          | none => rw [h1, h2] at h; cases h
          | some ks' =>
            rw [h1, h2] at h
            cases h
            obtain ⟨L, e1, e2, e3⟩ := RepL.tups rr h2
            cases r with
            | @tup a ys _ hq r1 =>
              have e4 := intsOf_eq h1
              subst e4
              have e5 := RepL.ints r1
              subst e5
              subst e1 e2
              exact ⟨(a, ns) :: L, rfl, rfl, fun p hp => (List.mem_cons.mp hp).elim (fun e => by rw [e]; exact hq) (e3 p)⟩
      | _ => cases h
section
variable {X : Cx}
/-- len(set(xs)) -/
def rLs (K : PySem.W.Frag) (x : V) (H : Hp) (Q : VK) : Prop := ∃ (l : Addr) (ks : List (Addr × List Int)), x = V.ref l ∧ SqL K H l (ks.map fun p => V.ref p.1) ∧ (∀ p ∈ ks, SqT K H p.1 (p.2.map V.int)) ∧ ks.length < 64 ∧ Q (.int (ddL (ks.map (·.2))).length) H
theorem pe_ls {a : Expr} {ta : TE} {n m : Str} {p p2 q pos : Pos} (hn : n = "len") (hm0 : m = "set") (hc : X.calm = true) (hu : X.A.units + 102 < cLine) (hg : Gl X n) (hm : X.mg n = none) (hg2 : Gl X m) (hm2 : X.mg m = none) (hs : notStar a = true) (ha : PE X a ta) :
    PE X (.Call (.Name n p) [.Call (.Name m p2) [a] [] q] [] pos) (fun σ H Q => ta σ H fun x H1 => rLs X.K x H1 Q) := by
  subst hn hm0
  refine ⟨fun pins s σ H Q I h => ?_⟩
  refine Call_ (ld_blt I hg hm PySem.boot_len ?_)
  refine PyProof.Rows.callWith_builtin1 (PyProof.Rows.args_cons ?_ rfl) rfl rfl
  refine Call_ (ld_blt I hg2 hm2 PyProof.Rows.boot_set ?_)
  refine PyProof.Rows.callWith_type1 (PyProof.Rows.args_cons (thn (ha.run pins s σ H _ I h) fun v s1 ⟨x, H1, I1, r1, q1⟩ => PyProof.Rows.args_nil ?_) (star_cons hs)) (star_cons hs) rfl
  obtain ⟨l, ks, rfl, hq, hk, hf, q1⟩ := q1
  cases r1
  obtain ⟨its, rv, pl, hz⟩ := I1.list hq
  refine call_set_tups (P := X.prog) (w := X.w) ks (I1.ok.hd hc) pl.isList (by simpa using refs_of_vals rv) (fun p hp => I1.isT (hk p hp)) hf (by omega) fun h' tk L es ep t R g k => ?_
  refine PyProof.Rows.args_nil ?_
  have I2 : Inv X pins σ H1 { s1 with heap := h', toks := tk } := I1.kept k
  have R' : SetTR X.prog X.w (Shared.heap { s1 with heap := h', toks := tk }) s1.heap.objs.size L es ep t := R
  have hlen : es.size = (ddL (ks.map (·.2))).length := by
    rw [R'.size, ← List.length_map (f := fun p : Addr × List Int => p.2)]
    refine nodup_len R.nd (ddL_nodup _) fun k => ?_
    rw [ddL_mem]
    constructor
    · intro z
      obtain ⟨p, hp, rfl⟩ := List.mem_map.mp z
      exact List.mem_map.mpr ⟨p, List.mem_of_mem_take (g.sub p hp), rfl⟩
    · intro z
      obtain ⟨p, hp, rfl⟩ := List.mem_map.mp z
      exact g.all p (by rw [List.take_length]; exact hp)
  obtain ⟨o, ho, hex, hd⟩ := R.ob
  have hfew := R.few
  refine call_len_set ho hex hd R'.fits (by rw [R'.size]; omega) ⟨.int (ddL (ks.map (·.2))).length, H1, I2.tok _, ⟨_, by rw [hlen]⟩, q1⟩
end
theorem sE_lset {X : Cx} {C : Cfg} {G : Gam} {A : Ac} {a : Expr} {x : E} {n m : Str} {p p2 q pos : Pos} (hK : X.K = A.K) (hn : n = "len") (hm0 : m = "set") (hc : X.calm = true) (hu : X.A.units + 102 < cLine) (hg : Gl X n) (hm : X.mg n = none) (hg2 : Gl X m) (hm2 : X.mg m = none) (hs : notStar a = true)
    (ha : PE X a (tE (C := C) G A x)) : PE X (.Call (.Name n p) [.Call (.Name m p2) [a] [] q] [] pos) (tE (C := C) G A (.lset x)) :=
  (pe_ls hn hm0 hc hu hg hm hg2 hm2 hs ha).weak fun σ H Q ⟨S, e, r, e', R, h, P⟩ => by
    refine tE_then R (by simpa only [denE] using h) P.err fun d e1 v H1 h1 k1 R1 v1 => ?_
    have w1 : Vw A.K (CelAt A σ) S H1 d v := v1.vw R.celD
    cases d with
    | lst ds =>
      cases hks : tupsOf ds with
      | none => simp [lsetD, hks] at h1
      | some ks =>
        simp only [lsetD, hks] at h1
        split at h1
        · rename_i hlt
          cases h1
          obtain ⟨a1, xs, rfl, hq, rr⟩ := w1.lst
          obtain ⟨L, e1, e2, e3⟩ := rr.tups hks
          subst e1 e2
          rw [hK]
          exact ⟨a1, L, rfl, hq, e3, by simpa using hlt, (P.shift k1).done R1 (Ext.refl _) ⟨.int _, rfl⟩⟩
        · cases h1
    | _ => cases h1
end Rf

set_option maxRecDepth 100000
set_option maxHeartbeats 4000000
/-! Lx1: a lambda handed to a def, over L2N (the exception's context is None). -/
namespace Rf
open PySem PySem.Spec PyProof.Rows L2
/-- what the lambda's frame does with an exception -/
def xeLam (X : Cx) (A : Around) (outer : List Env) (s : Shared) (H : Hp) (E : XK) (scope : Scope) (f c' : Addr) : Value → Shared → Prop := fun e s' =>
  wpAny (model X.prog X.w) (A.deeper (LamX.lamEnv X scope s.heap.objs.size f c')) (leaving (LamX.lamEnv X scope s.heap.objs.size f c') e)
    (fun _ s2 => L2N.CX X.prog X.w outer H s E e s2) (fun e' s2 => L2N.CX X.prog X.w outer H s E e' s2) s'
/-- the lambda's context -/
def lamN (X : Cx) (A : Around) (outer : List Env) (s : Shared) (H : Hp) (E : XK) (scope : Scope) (f c' : Addr) : Cx :=
  (LamX.lamCx X A outer s H E scope f c').tr [] (xeLam X A outer s H E scope f c')
section
variable {X : Cx} {pins : List (Addr × Obj)} {σ : L2.St} {H : Hp} {s : Shared}
/-- the parameter called, in the def Z that got the lambda -/
theorem pe_actN {CXg : CXT} {Eg : XK} {Ng : List Str} {qg : Str} {sg : Scope} {g f c' : Addr} {cdg pm ctv : Value} {params : Arguments} {body : Expr} {scope : Scope} {k i : Nat} {a : Str} {pn : List (Addr × Obj)} {xe : Value → Shared → Prop} {W : WX} {E : XK} {tb : TE} {p1 p2 : Pos}
    (J0 : Inv X pins σ H s) (L : LamX.LamS X.env.scope scope)
    (hob : s.heap.get? f = some (PySem.W.kla_obj "<lambda>" (X.env.qual ++ "<lambda>") params body scope (cloFrom X.env.cells scope.names []) pm c' ctv)) (hnew : H f = none) (hnf : f ∉ frs X.stack)
    (hargs : bindArgs (PySem.W.kla_fn "<lambda>" (X.env.qual ++ "<lambda>") params body scope (cloFrom X.env.cells scope.names []) pm (.ref c') ctv) ⟨[], []⟩ = pure [])
    (tk : L2N.Takes ((cxOf CXg X.prog X.w X.K X.mg X.base Ng qg sg g cdg X.A X.stack s H Eg).tr pn xe) W)
    (room : Room (k + 1) (X.A.deeper (envOfC qg sg s.heap.objs.size g cdg)))
    (hb : ∀ (A : Around) (outer : List Env) (s : Shared) (H : Hp), Room k (A.deeper (LamX.lamEnv X scope s.heap.objs.size f c')) → PE (lamN X A outer s H E scope f c') body tb)
    (hN : Ng[i]? = some a) (hv : Vis sg a) (hd1 : (a == ("__debug__" : Str)) = false := by decide) (hd2 : (a == ("__classdict__" : Str)) = false := by decide) :
    PE ((cxOf CXg X.prog X.w X.K X.mg X.base Ng qg sg g cdg X.A X.stack s H Eg).tr pn xe) (.Call (.Name a p1) [] [] p2)
      (fun τ HZ Q => (∀ cls d H', E cls d H' → W cls d τ H') ∧ τ[i]? = some (some (.ref f)) ∧ HZ c' = some (LamX.CodeO c' (X.env.qual ++ "<lambda>")) ∧ tb σ HZ Q) := by
  constructor
  intro pinsZ sZ τ HZ Q JZ hyp
  obtain ⟨hW, hslot, hcode, hpost⟩ := hyp
  refine wpAny_Call_Name_kw (thn ((pe_var (pos := p1) (i := i) hN hv hd1 hd2).run pinsZ sZ τ HZ (fun v H1 => v = .ref f ∧ H1 = HZ) JZ ⟨.ref f, hslot, rfl, rfl⟩) fun u s1 ⟨v, H1, J1, rv, ev, eH⟩ => ?_)
  cases ev
  rw [eH] at J1
  obtain rfl : u = Value.ref f := rv
  have hob1 := J1.base.keep f _ hob hnew hnf (fun z => nomatch (show f ∈ ([] : List Addr) from z))
  have hob2 : s1.heap.get? f = some (PySem.W.kla_obj "<lambda>" (X.env.qual ++ "<lambda>") params body scope (cloFrom X.env.cells scope.names []) pm c' ctv) := hob1
  refine PySem.W.callWith_F0 ⟨_, _, _, _, hob2⟩ ?_
  have un : Un (frs X.stack) [] H HZ s.heap s1.heap := J1.base
  obtain ⟨⟨oc, vs, t, g1, g2, g3⟩, _, _⟩ := J1.hok c' _ hcode
  have run : codeAny (model X.prog X.w) (X.A.deeper (envOfC qg sg s.heap.objs.size g cdg)) (.call (.ref f) ⟨[], []⟩) (CR (L2N.CX X.prog X.w) (envOfC qg sg s.heap.objs.size g cdg :: X.stack) X.prog X.w HZ s1 Q E) s1 := by
    refine PySem.W.kla_callFunE room.depth hob2 rfl L.co L.gen rfl ⟨c', oc, vs, t, rfl, g1, g2, g3⟩ ?_
    rw [hargs]
    refine wpAny_pure (wpAny_newFunctionEnv (fun y hy => (L.own y hy).2) (fun y hy => absurd hy (by simp)) (fun hp hns hsb => ⟨J1.nolimit.fresh _ hsb, ?_⟩) L.kind)
    show codeAny _ _ (.expr body (LamX.lamEnv X scope s1.heap.objs.size f c')) _ _
    have keep : ∀ b o, s1.heap.get? b = some o → hp.get? b = some o := fun b o e => hsb.extBut b o (Nat.ne_of_lt (Heap.lt_size e)) (Heap.get?_push_of_some _ e)
    have J : Inv (LamX.lamCx X (X.A.deeper (envOfC qg sg s.heap.objs.size g cdg)) (envOfC qg sg s.heap.objs.size g cdg :: X.stack) s1 HZ E scope f c') [] σ HZ { s1 with heap := hp, toks := s1.toks + ([] : List (Str × Value)).length } :=
      LamX.lam_start2 J0 L J1.env0 room.hd un hns keep
    have J2 := J.toTry (xeLam X (X.A.deeper (envOfC qg sg s.heap.objs.size g cdg)) (envOfC qg sg s.heap.objs.size g cdg :: X.stack) s1 HZ E scope f c')
    refine PySem.W.kla_codeExpr (wpAny_mono ((hb _ _ s1 HZ (room.deeper _)).run [] _ _ HZ Q J2 hpost) (fun v s' hq => ?_) fun e s' hq => hq)
    obtain ⟨w', H', J', rv', q⟩ := hq
    exact ⟨w', H', J'.os, J'.bare, J'.base, J'.hok, rv', q⟩
  refine wpAny_call (codeAny_mono run fun r s' hq => ?_)
  cases r with
  | error e => exact tk e s' (L2N.XE.of_call J1 hW hq)
  | ok fl =>
    cases fl with
    | ret u => exact J1.after hq
    | next => exact False.elim hq
    | brk => exact False.elim hq
    | cont => exact False.elim hq
end
end Rf

set_option maxRecDepth 100000
set_option maxHeartbeats 4000000
/-! Lx2: x(lambda: body), over L2N; only the table changes. -/
namespace Rf
open PySem PySem.Spec PyProof.Rows L2
/-- only the object at P changes -/
def But (P : Addr) (H H1 : Hp) : Prop := ∀ b o, b ≠ P → H b = some o → H1 b = some o
section
variable {X : Cx} {pins : List (Addr × Obj)} {σ : L2.St} {H : Hp} {s : Shared}
/-- the lambda is made -/
theorem lam_new {S : AS} {c P : Addr} {params : Arguments} {body : Expr} {scope : Scope} {pos : Pos} {E : Value → Shared → Prop} {Q : Value → Shared → Prop} (I : Inv X pins σ H s) (B : LamX.TabB X.base X.mg c P) (hcode : X.env.code = .ref c)
    (hT : TabR S H P (X.env.qual ++ "<lambda>")) (hS : ∀ a, S a → H a ≠ none) (hdef : defaultsOf params X.env = ([], [])) (hfree : ∀ y ∈ scope.names, y.2 = .free → ∃ c, X.env.cells.lookup y.1 = some c)
    (K : ∀ (f c' : Addr) (pm ctv : Value) (H1 : Hp) (s1 : Shared), Inv X pins σ H1 s1 → But P H H1 → TabR S H1 P (X.env.qual ++ "<lambda>") →
      s1.heap.get? f = some (PySem.W.kla_obj "<lambda>" (X.env.qual ++ "<lambda>") params body scope (cloFrom X.env.cells scope.names []) pm c' ctv) → H1 f = none → f ∉ frs X.stack → H1 c' = some (LamX.CodeO c' (X.env.qual ++ "<lambda>")) → Q (.ref f) s1) :
    wpAny (model X.prog X.w) X.A (eval (.Lambda params body scope pos) X.env) Q E s := by
  obtain ⟨tb, eP, okT, okC⟩ := hT
  refine PySem.W.kla_eval hdef ?_
  have bmP : s.heap.BuiltinsAt X.mg P := B.bm.keeps I.bk
  have atP : s.heap.get? P = some { cls := .none, data := .fields tb } := I.hok P _ eP
  have noF : ∀ f, s.heap.objs.size ≤ f → f ∉ frs X.stack := fun f hf z => by
    rcases List.mem_cons.mp (I.stkSub _ z) with e | e
    · have lt := I.lt
      rw [← e] at lt
      exact absurd (Nat.lt_of_lt_of_le lt hf) (Nat.lt_irrefl _)
    · exact I.nofs hf e
  cases hc : codeAmong pos tb.toList with
  | some cv =>
    obtain ⟨c1, ec, hco, _⟩ := okC pos cv hc
    subst ec
    refine PySem.W.kla_makeFunctionHit (mg := X.mg) (c := c) (P := P) (ps := tb) (closure_ok hfree) I.ok.glob (I.mod.glob.keeps I.bk) hcode (B.code.keeps I.bk) atP okT hc bmP fun ctv h2 tk kx ksz => ?_
    have J : Inv X pins σ H { s with heap := h2.push (PySem.W.kla_obj "<lambda>" (X.env.qual ++ "<lambda>") params body scope (cloFrom X.env.cells scope.names []) ((X.mg "__name__").getD .none) c1 ctv), toks := tk } := I.kept fun b o e => Heap.get?_push_of_some _ (kx b o e)
    exact K h2.objs.size c1 ((X.mg "__name__").getD .none) ctv H _ J (fun b o _ h => h) ⟨tb, eP, okT, okC⟩ (Heap.get?_push_size _ rfl) (I.hok.fresh ksz) (noF _ ksz) hco
  | none =>
    refine PySem.W.kla_makeFunction (mg := X.mg) (c := c) (P := P) (ps := tb) (closure_ok hfree) I.ok.glob (I.mod.glob.keeps I.bk) hcode (B.code.keeps I.bk) atP okT hc B.gP bmP fun c1 ctv h2 tk kx kge klt krec ktb => ?_
    obtain ⟨c2, oc, vs, t, e2, g1, g2, g3⟩ := krec
    cases e2
    have fresh : H c1 = none := I.hok.fresh kge
    have big : s.heap.objs.size ≤ h2.objs.size := Nat.le_trans kge (Nat.le_of_lt klt)
    have J := LamX.inv_table (t' := tk) (more := #[rawInt pos.line, rawInt pos.col, .ref c1]) (h' := h2.push (PySem.W.kla_obj "<lambda>" (X.env.qual ++ "<lambda>") params body scope (cloFrom X.env.cells scope.names []) ((X.mg "__name__").getD .none) c1 ctv)) I eP
      (fun b o hb e => Heap.get?_push_of_some _ (kx b o hb e)) (Heap.get?_push_of_some _ ktb) kge ⟨oc, vs, t, Heap.get?_push_of_some _ g1, g2, g3⟩
    have nPc : P ≠ c1 := fun z => by rw [z, fresh] at eP; cases eP
    have kb : But P H (upd (upd H P (.tbl (tb ++ #[rawInt pos.line, rawInt pos.col, .ref c1]))) c1 (LamX.CodeO c1 (X.env.qual ++ "<lambda>"))) := fun b o nb e => by
      have nc : b ≠ c1 := fun z => by rw [z, fresh] at e; cases e
      rw [upd_ne nc, upd_ne nb]
      exact e
    have eL : (tb ++ #[rawInt pos.line, rawInt pos.col, .ref c1]).toList = tb.toList ++ [rawInt pos.line, rawInt pos.col, .ref c1] := by simp
    refine K h2.objs.size c1 ((X.mg "__name__").getD .none) ctv _ _ J kb ⟨_, by rw [upd_ne nPc, upd_same], by rw [eL]; exact PySem.TriplesOk_snoc _ _ _ _ okT, fun p cv hcv => ?_⟩ (Heap.get?_push_size _ rfl) ?_ (noF _ big) upd_same
    · rw [eL] at hcv
      rcases LamX.among_app _ okT hcv with z | z
      · obtain ⟨c0, w1, w2, w3⟩ := okC p cv z
        refine ⟨c0, w1, kb _ _ (fun q => ?_) w2, w3⟩
        rw [q, eP] at w2
        exact LamX.codeO_ne _ (Option.some.inj w2).symm
      · exact ⟨c1, z, upd_same, fun q => hS _ q fresh⟩
    · have n1 : h2.objs.size ≠ c1 := Nat.ne_of_gt klt
      have n2 : h2.objs.size ≠ P := Nat.ne_of_gt (Nat.lt_of_lt_of_le (Heap.lt_size atP) big)
      rw [upd_ne n1, upd_ne n2]
      exact I.hok.fresh big
end
abbrev TTx := (XK → Hp → VK → Prop) → Hp → VK → Prop
/-- the context of the def that gets the lambda -/
abbrev cxG (X : Cx) (Ng : List Str) (x : Str) (sg : Scope) (g : Addr) (cdg : Value) (s : Shared) (H : Hp) : Cx := cxOf C8.CX0 X.prog X.w X.K X.mg X.base Ng x sg g cdg X.A X.stack s H C8.E0
/-- what the def makes of the lambda that it got -/
def GivesN (X : Cx) (k : Nat) (Ng : List Str) (x : Str) (sg : Scope) (g : Addr) (cdg : Value) (bg : List Stmt) (a : Str) (q : Str) (TT : TTx) : Prop :=
  ∀ (f c' : Addr) (s : Shared) (H : Hp) (Q : VK) (tl : XK → Hp → VK → Prop), Room (k + 1) (X.A.deeper (envOfC x sg s.heap.objs.size g cdg)) → (∀ (E : XK) (H : Hp) (Q Q' : VK), (∀ v H', Q v H' → Q' v H') → tl E H Q → tl E H Q') →
    (∀ (W : WX) (pn : List (Addr × Obj)) (xe : Value → Shared → Prop) (E : XK) (p1 p2 : Pos), L2N.Takes ((cxG X Ng x sg g cdg s H).tr pn xe) W →
      PE ((cxG X Ng x sg g cdg s H).tr pn xe) (.Call (.Name a p1) [] [] p2) (fun τ HZ Q => (∀ cls d H', E cls d H' → W cls d τ H') ∧ τ[0]? = some (some (.ref f)) ∧ HZ c' = some (LamX.CodeO c' q) ∧ tl E HZ Q)) →
    H c' = some (LamX.CodeO c' q) → TT tl H Q →
    ∃ t, PSs (cxG X Ng x sg g cdg s H).nox bg t ∧ t { nx := fun _ H' => Q .non H', rt := Q } (L2.start Ng [.ref f]) H
theorem pe_lamN {X : Cx} {TT : TTx} {x a : Str} {g c P : Addr} {k : Nat} {pg : Arguments} {bg : List Stmt} {sg : Scope} {dV kV doc pm cdv ct oc : Value} {an od : Option Addr} {osl : Array (Option Value)} {Ng : List Str}
    {params : Arguments} {body : Expr} {scope : Scope} {t : XK → TE} {p lpos pos : Pos} (hg : Gl X x) (hm : X.mg x = some (.ref g)) (hk : PySem.W.keepIn X.K (.ref g) = true)
    (lk : X.K.lookup g = some ⟨oc, od, .func (PySem.W.fnOf x x pg bg sg dV kV doc pm an cdv ct), osl⟩) (hcg : PySem.W.codeIn X.K cdv x = true) (hb : L2.Binds X.K (PySem.W.fnOf x x pg bg sg dV kV doc pm an cdv ct) [a] []) (Sg : FnScope Ng [a] sg) (hNg : Ng[0]? = some a) (hva : Vis sg a)
    (hG : GivesN X k Ng x sg g cdv bg a (X.env.qual ++ "<lambda>") TT)
    (TB : LamX.TabB X.base X.mg c P) (hcode : X.env.code = .ref c) (room : Room (k + 2) X.A) (L : LamX.LamS X.env.scope scope) (hdef : defaultsOf params X.env = ([], []))
    (hbind : ∀ (q : Str) (cl : List (Str × Addr)) (pm cv ctv : Value), bindArgs (PySem.W.kla_fn "<lambda>" q params body scope cl pm cv ctv) ⟨[], []⟩ = pure [])
    (hbody : ∀ (A : Around) (outer : List Env) (s : Shared) (H : Hp) (E : XK) (f c' : Addr), Room k (A.deeper (LamX.lamEnv X scope s.heap.objs.size f c')) → PE (lamN X A outer s H E scope f c') body (t E))
    (mono : ∀ (E : XK) (σ : L2.St) (H : Hp) (Q Q' : VK), (∀ v H', Q v H' → Q' v H') → t E σ H Q → t E σ H Q')
    (d1 : (x == ("__debug__" : Str)) = false := by decide) (d2 : (a == ("__debug__" : Str)) = false := by decide) (d3 : (a == ("__classdict__" : Str)) = false := by decide) :
    PE X (.Call (.Name x p) [.Lambda params body scope lpos] [] pos) (fun σ H Q => ∃ S : AS, (∀ a, S a → H a ≠ none) ∧ TabR S H P (X.env.qual ++ "<lambda>") ∧ ∀ H1, But P H H1 → TabR S H1 P (X.env.qual ++ "<lambda>") → TT (fun E H' Q' => t E σ H' Q') H1 Q) := by
  constructor
  intro pins s σ H Q I hyp
  obtain ⟨S, hS, hT, hyp⟩ := hyp
  refine wpAny_Call_Name_kw (ld_glob I hg hm ?_ d1)
  refine PySem.W.callWith_K (h₀ := X.base) I.ok.mod.kin hk ?_ (by rfl) (by rfl)
  show wpAny _ _ (spliced ((false, eval (.Lambda params body scope lpos) X.env) :: backTo pos (starEach [] X.env))) _ _ s
  refine Calls.spliced_cons (lam_new I TB hcode hT hS hdef (L.has I.ok) ?_)
  intro f c' pm' ctv H1 s1 I1 eN T1 hob hnew hnf hco
  refine Calls.spliced_nil ⟨I1.kIn, ?_⟩
  have run : codeAny (model X.prog X.w) X.A (.call (.ref g) ⟨[.ref f], []⟩) (CR C8.CX0 X.stack X.prog X.w H1 s1 Q C8.E0) s1 := by
    refine LamX.run_ofS (N := Ng) (ps := [a]) (us := [.ref f]) (vs := [.ref f]) lk hcg Sg room I1.env0 (hb s1 [.ref f] I1.kIn rfl) (.cons rfl .nil) rfl ?_
    intro room1
    obtain ⟨t', ht', hq'⟩ := hG f c' s1 H1 Q (fun E H' Q' => t E σ H' Q') room1 (fun E H Q Q' h => mono E σ H Q Q' h)
      (fun W pn xe E p1 p2 tk => pe_actN (i := 0) I1 L hob hnew hnf (hbind _ _ _ _ _) tk room1 (fun A outer s H r2 => hbody A outer s H E f c' r2) hNg hva d2 d3) hco (hyp H1 eN T1)
    exact ⟨t', ht'.nox, hq'⟩
  refine wpAny_call (codeAny_mono run fun r s2 hq => ?_)
  cases r with
  | error e => exact (show False from hq).elim
  | ok fl =>
    cases fl with
    | ret u => exact I1.after hq
    | next => exact False.elim hq
    | brk => exact False.elim hq
    | cont => exact False.elim hq
end Rf

set_option maxRecDepth 100000
set_option maxHeartbeats 2000000
/-! Rt0: a lambda handed to a def that tries it; defs as values. -/
namespace Rf
open PySem PySem.Spec PyProof.Rows L2
variable [TN]
variable {X : Cx} {C : Cfg} {G : Gam} {A : Ac} {S : AS} {σ : L2.St} {pos : Pos}

/-! ### the lambda -/
/-- a run with another wish about exceptions -/
def Ac.xw (A : Ac) (E : XK) : Ac := { A with XW := E }
theorem SR.xw {e : Envd} {H : Hp} {E : XK} (R : SR A S e σ H) : SR (A.xw E) S e σ H := ⟨R.len, R.s0, R.s0h, R.dom, R.new, R.wp, R.fr, R.non, R.slot, R.dist, R.bo, R.pc⟩
theorem SR.unxw {e : Envd} {H : Hp} {E : XK} (R : SR (A.xw E) S e σ H) : SR A S e σ H := ⟨R.len, R.s0, R.s0h, R.dom, R.new, R.wp, R.fr, R.non, R.slot, R.dist, R.bo, R.pc⟩
def Cfg.noTri (C : Cfg) : Cfg := { C with tri := false }
/-- no parameters -/
def noPar : Arguments → Bool
  | ⟨[], [], none, [], [], none, []⟩ => true
  | _ => false
theorem noPar_of {p : Arguments} (h : noPar p = true) : p = ⟨[], [], none, [], [], none, []⟩ := by
  unfold noPar at h
  split at h
  · rfl
  · cases h
/-- what the def that gets a lambda makes of it -/
def TriT (K : PySem.W.Frag) (ca : Nat → Addr) (cf : Nat → Str) (G : Gam) (TT : TTx) : Prop :=
  ∀ (tl : XK → Hp → VK → Prop) (H : Hp) (Q : VK), (∀ (E E' : XK) (H : Hp) (Q : VK), (∀ cls dd H', E cls dd H' → E' cls dd H') → tl E H Q → tl E' H Q) →
    tl (fun cls dd H' => ∃ x s, ExR' K ca cf H' x cls dd ∧ G.tr x = some s ∧ ∀ H2, Ext H' H2 → Q (.str s) H2) H (fun v H1 => ∀ T, H1 T = none → Q (.ref T) (upd H1 T (.tup [.str "told", v]))) → TT tl H Q
/-- a def, its level at most k -/
def FnLe (X : Cx) (ca : Nat → Addr) (cf : Nat → Str) (k : Nat) (I : FnI) (f : FnV) : Prop :=
  ∃ (fa : Addr) (fd : FuncData) (ps : List Str) (j : Nat), (X.mg I.name = some (.ref fa) ∧ fa = He.ga X.K I.name) ∧ PySem.W.keepIn X.K (.ref fa) = true ∧ Binds X.K fd ps [] ∧
    FnOk X.prog X.w X.K X.mg X.base (L2N.CX X.prog X.w) j fa fd ps (spF X.K ca cf I.pk I.fresh f) ∧ j ≤ k
structure TriOk (X : Cx) (C : Cfg) (G : Gam) (A : Ac) : Prop where
  ex : ∃ (g c P : Addr) (k : Nat) (a : Str) (pg : Arguments) (bg : List Stmt) (sg : Scope) (dV kV doc pm cdv ct oc : Value) (an od : Option Addr) (osl : Array (Option Value)) (Ng : List Str) (TT : TTx),
    X.mg "_law_try" = some (.ref g) ∧ PySem.W.keepIn X.K (.ref g) = true ∧ X.K.lookup g = some ⟨oc, od, .func (PySem.W.fnOf "_law_try" "_law_try" pg bg sg dV kV doc pm an cdv ct), osl⟩ ∧ PySem.W.codeIn X.K cdv "_law_try" = true ∧
    L2.Binds X.K (PySem.W.fnOf "_law_try" "_law_try" pg bg sg dV kV doc pm an cdv ct) [a] [] ∧ FnScope Ng [a] sg ∧ Ng[0]? = some a ∧ Vis sg a ∧ ((a == ("__debug__" : Str)) = false ∧ (a == ("__classdict__" : Str)) = false) ∧
    GivesN X k Ng "_law_try" sg g cdv bg a (X.env.qual ++ "<lambda>") TT ∧ LamX.TabB X.base X.mg c P ∧ X.env.code = .ref c ∧ Room (k + 2) X.A ∧ TN.tn P = X.env.qual ++ "<lambda>" ∧ TabQ A.H0 P ∧ TriT X.K A.ca A.cf G TT ∧
    ∀ (j : Nat) I, C.fns[j]? = some I → FnLe X A.ca A.cf k I (G.fn j)
theorem kp_but {P : Addr} {H H1 : Hp} (hT : TabR (fun _ => False) H P (TN.tn P)) (b : But P H H1) (h1 : TabR (fun _ => False) H1 P (TN.tn P)) : Kp (fun _ => False) H H1 := by
  obtain ⟨ps, eP, _, _⟩ := hT
  obtain ⟨ps1, eP1, t1, c1⟩ := h1
  have ne : ∀ {a o}, H a = some o → (∀ ps, o ≠ .tbl ps) → a ≠ P := fun {a o} e n z => by
    rw [z, eP] at e
    exact n ps (Option.some.inj e).symm
  refine ⟨fun a o e _ n => b a o (ne e n) e, fun a xs e => b a _ (ne e fun _ z => nomatch z) e, fun a e => ?_, fun a o u e => b a _ (ne e fun _ z => nomatch z) e, fun a h => ?_⟩
  · by_cases z : a = P
    · rw [z, eP1]; exact fun q => nomatch q
    · cases q : H a with
      | none => exact absurd q e
      | some o => rw [b a o z q]; exact fun q => nomatch q
  · by_cases z : a = P
    · subst z
      exact ⟨ps1, eP1, t1, fun pos cv hc => let ⟨c, x, y, _⟩ := c1 pos cv hc; ⟨c, x, y⟩⟩
    · obtain ⟨qs, e, t, c⟩ := h
      refine ⟨qs, b a _ z e, t, fun pos cv hc => ?_⟩
      obtain ⟨c', x, y⟩ := c pos cv hc
      exact ⟨c', x, b _ _ (ne y fun _ => LamX.codeO_ne _) y⟩
theorem TabQ.r {H : Hp} {P : Addr} (h : TabQ H P) : TabR (fun _ => False) H P (TN.tn P) := by
  obtain ⟨ps, e, t, c⟩ := h
  exact ⟨ps, e, t, fun pos cv hc => let ⟨c', x, y⟩ := c pos cv hc; ⟨c', x, y, fun z => z⟩⟩
theorem PostV.mono {k : KD} {H : Hp} {Q Q' : VK} {r : Except Exc D} {e' : Envd} (m : ∀ v H', Q v H' → Q' v H') (h : PostV A S σ k H Q r e') : PostV A S σ k H Q' r e' := by
  cases r with
  | ok d => exact fun v H' a b c => m _ _ (h v H' a b c)
  | error y => exact h
theorem PostV.xmono {k : KD} {H : Hp} {Q : VK} {r : Except Exc D} {e' : Envd} {E E' : XK} (m : ∀ cls dd H', E cls dd H' → E' cls dd H') (h : PostV (A.xw E) S σ k H Q r e') : PostV (A.xw E') S σ k H Q r e' := by
  cases r with
  | ok d => exact fun v H' a b c => h v H' a b.unxw.xw c
  | error y => exact fun cls dd H' a b c => m _ _ _ (h cls dd H' a b.unxw.xw c)
theorem sE_tri {x : E} {n : Str} {params : Arguments} {body : Expr} {scope : Scope} {p lpos : Pos} (hK : X.K = A.K) (T : TriOk X C G A) (hn : n = "_law_try") (hg : Gl X n) (hL : LamX.LamS X.env.scope scope) (hp : noPar params = true) (hk : kdE C.noTri x = .fr ∨ kdE C.noTri x = .vl)
    (hb : ∀ k, (∀ (j : Nat) I, C.fns[j]? = some I → FnLe X A.ca A.cf k I (G.fn j)) → ∀ (A₀ : Around) (outer : List Env) (s : Shared) (H : Hp) (E : XK) (f c' : Addr), Room k (A₀.deeper (LamX.lamEnv X scope s.heap.objs.size f c')) →
      PE (lamN X A₀ outer s H E scope f c') body (tE (C := C.noTri) G (A.xw E) x)) :
    PE X (.Call (.Name n p) [.Lambda params body scope lpos] [] pos) (tE (C := C) G A (.tri x)) := by
  obtain ⟨g, c, P, k, a, pg, bg, sg, dV, kV, doc, pm, cdv, ct, oc, an, od, osl, Ng, TT, hm, hkp, lk, hcg, hbi, Sg, hNg, hva, hda, hG, TB, hcode, room, htn, hT0, hTT, hf⟩ := T.ex
  subst hn
  have hp' := noPar_of hp
  subst hp'
  refine (pe_lamN (t := fun E => tE (C := C.noTri) G (A.xw E) x) hg hm hkp lk hcg hbi Sg hNg hva hG TB hcode room hL rfl (fun _ _ _ _ _ => rfl) (hb k hf) (fun E σ H Q Q' m ⟨S, e, r, e', R, h, P⟩ => ⟨S, e, r, e', R, h, P.mono m⟩) (by decide) hda.1 hda.2).weak fun σ H Q ⟨S, e, r, e', R, h, Po⟩ => ?_
  have hT := (R.fr.tbl P hT0).r
  rw [htn] at hT
  refine ⟨fun _ => False, fun _ z => z.elim, hT, fun H1 eN T1 => ?_⟩
  have k01 : Kp (fun _ => False) H H1 := kp_but (by rw [htn]; exact hT) eN (by rw [htn]; exact T1)
  have R1 := R.kp0 k01
  have Po1 := Po.shift (k01.mono fun _ z => z.elim)
  refine hTT _ _ _ (fun E E' H Q m ⟨S, e, r, e', R, h, P⟩ => ⟨S, e, r, e', R.unxw.xw, h, P.xmono m⟩) ?_
  cases q : denE G x e with
  | none => simp only [denE, q] at h; cases h
  | some o =>
    obtain ⟨rx, e1⟩ := o
    refine ⟨S, e, rx, e1, R1.xw, q, ?_⟩
    cases rx with
    | ok d =>
      simp only [denE, q] at h
      cases h
      intro v H' k1 R' vr T hT
      refine Po1 (.ref T) _ (k1.trans (Kp.ext (Ext.new hT))) (R'.unxw.ext (Ext.new hT)) ⟨?_, rfl⟩
      have rp : Rep A.K S H' d v := VR.rep (A := A.xw _) R1.dom hk vr
      exact .tup (.inl (.inl upd_same)) (.cons (.str _) (.cons (rp.kp (W := fun _ => False) (Kp.ext (Ext.new hT)) fun _ z => z.elim) .nil))
    | error y =>
      simp only [denE, q] at h
      obtain ⟨w, hw, rfl, rfl⟩ := bnd_pr h
      obtain ⟨s, hs, rfl⟩ := Option.map_eq_some_iff.mp hw
      intro cls dd H' k1 R' ex
      refine ⟨y, s, by rw [hK]; exact ex, hs, fun H2 x2 => ?_⟩
      exact Po1 (.str s) H2 (k1.trans (Kp.ext x2)) (R'.unxw.ext x2) ⟨.str s, rfl⟩

/-! ### defs as values -/
theorem sE_fn {n m : Str} {j : Nat} {p : Pos} (hK : X.K = A.K) (hg : Gl X n) (he : n = m) (hm : X.mg n = some (.ref (He.ga X.K n))) (hd : (n == ("__debug__" : Str)) = false) : PE X (.Name n p) (tE (C := C) G A (.fn j m)) := by
  subst he
  refine ⟨fun pins s σ H Q I ⟨S, e, r, e', R, h, P⟩ => ?_⟩
  have h' : some (Except.ok (D.fn n), e) = some (r, e') := by simpa [denE] using h
  cases h'
  exact (pe_glob hg hm (v := .ref (He.ga X.K n)) rfl hd).run pins s σ H Q I (P.done R (Ext.refl H) ⟨by rw [hK]; exact .fn n, rfl⟩)
theorem sE_callv {a : Expr} {as : List Expr} {es : Es} {n : Str} {p : Pos} {i : Nat} {js : List (Nat × Str)} (hK : X.K = A.K) (hks : A.ks = C.ks) (hki : C.ks[i]? = some .val) (tk : L2N.Takes X (fun cls d _ H => A.XW cls d H))
    (hjs : ∀ p ∈ js, ∃ I, C.fns[p.1]? = some I ∧ I.name = p.2 ∧ fitEs C I.pk es [] = true ∧ FnSt X A.ca A.cf I (G.fn p.1))
    (hN : X.N[i]? = some n) (hv : Vis X.env.scope n) (hd : (n == ("__debug__" : Str)) = false) (hcd : (n == ("__classdict__" : Str)) = false)
    (hs : notStar a = true) (hss : as.all notStar = true) (ha : PA X (a :: as) (tA C G A es)) :
    PE X (.Call (.Name n p) (a :: as) [] pos) (tE (C := C) G A (.callv i js es)) := by
  refine ⟨fun pins s σ H Q I ⟨S, e, r, e', R, h, P⟩ => ?_⟩
  cases qg : getV e i with
  | none => simp [denE, qg] at h
  | some d =>
  cases qf : fnAt js d with
  | none => simp [denE, qg, qf] at h
  | some j =>
  have h2 : denE G (.call j es []) e = some (r, e') := by
    rw [← h]
    simp only [denE, qg, Option.bind_some, qf, pr_some, bnd_ok]
    congr 1
  obtain ⟨m, rfl⟩ : ∃ m, d = .fn m := by
    cases d <;> simp only [fnAt] at qf <;> first | exact ⟨_, rfl⟩ | cases qf
  simp only [fnAt] at qf
  obtain ⟨q, hq, rfl⟩ := Option.map_eq_some_iff.mp qf
  have hmem := List.mem_of_find?_eq_some hq
  have hname : q.2 = m := by have := List.find?_some hq; exact of_decide_eq_true this
  obtain ⟨I', hI, hIn, hfit, fa, fd, ps, k, ⟨hm, hga⟩, hkp, hb, F, hr⟩ := hjs q hmem
  have F' : FnOk X.prog X.w X.K X.mg X.base (L2N.CX X.prog X.w) k fa fd ps (spF A.K A.ca A.cf I'.pk I'.fresh (G.fn q.1)) := by rw [← hK]; exact F
  obtain ⟨v, hsl, hvr⟩ := R.getV qg
  rw [hks, hki] at hvr
  have hva : v = .ref fa := by
    cases hvr
    rw [hga, ← hname, ← hIn, hK]
  subst hva
  refine (pe_callL (i := i) F' hr hN hv hkp hb .nil (passes_A tk) ha hd hcd (star_cons hs) (star_any hss)).run pins s σ H Q I ⟨hsl, ?_⟩
  refine call_go hks hI hfit List.nodup_nil R h2 ?_
  cases r with
  | error y => exact P
  | ok d =>
    intro v H' k1 R' vr
    refine P v H' k1 R' (vr.wk R.dom R.celD ?_)
    have e1 : kdE C (.callv i js es) = .vl := by rw [kdE]
    rw [e1]
    have e2 : kdE C (.call q.1 es []) = if I'.fresh = true then .fr else .vl := by rw [kdE, hI]
    rw [e2]
    split
    · exact .inr (.inl ⟨rfl, rfl⟩)
    · exact .inl rfl
end Rf

set_option maxRecDepth 100000
set_option maxHeartbeats 2000000
/-! Rd1: a new list of new lists, looked at once, and each of them changed then. -/
namespace Rf
open PySem PySem.Spec PyProof.Rows L2
variable [TN]
variable {X : Cx} {C : Cfg} {G : Gam} {A : Ac} {S : AS} {σ : L2.St} {pos : Pos}
/-- each of them is a new list -/
def allFr (C : Cfg) : Es → Bool
  | .nil => true
  | .cons x r => decide (kdE C x = .fr) && allFr C r
  | .cel _ _ => false
theorem VRs.frs {H0 : Hp} : ∀ {es : Es} {H H' : Hp} {ds : List D} {vs : List V}, allFr C es = true → (∀ a, H0 a ≠ none → H a ≠ none) → VRs C A S σ es H H' ds vs → shortL ds = true → ∀ v ∈ vs, ∃ b ys, v = .ref b ∧ H0 b = none ∧ H' b = some (.lst ys) ∧ ys.length + 2000 ≤ LIM
  | .nil, H, H', ds, vs, _, _, h, _, v, hv => by
    obtain ⟨rfl, rfl⟩ := h
    cases hv
  | .cons x r, H, H', ds, vs, ha, hd, h, hs, v, hv => by
    obtain ⟨d, ds', v0, vs', H1, rfl, rfl, h1, h2, h3, h4⟩ := h
    rw [allFr, Bool.and_eq_true, decide_eq_true_eq] at ha
    unfold shortL at hs
    rw [List.all_cons, Bool.and_eq_true] at hs
    rcases List.mem_cons.mp hv with rfl | hv
    · rw [ha.1] at h3
      have h3 : Fr A.K S H H' d v ∧ isDic d = false := h3
      cases d with
      | lst xs =>
        obtain ⟨p, e1, e2, ys, e3, e4⟩ := h3.1
        refine ⟨p, ys, e1, ?_, e3, ?_⟩
        · cases q : H0 p with
          | none => rfl
          | some o => exact absurd e2 (hd p (by rw [q]; exact fun z => nomatch z))
        · have := of_decide_eq_true hs.1
          rw [← e4.length]
          exact this
      | _ => cases hs.1
    · exact VRs.frs ha.2 (fun a z => h1 a (hd a z)) h4 hs.2 v hv
  | .cel i r, _, _, _, _, ha, _, _, _, _, _ => by cases ha
/-- two slots of which nothing is known any more -/
theorem SR.junk {e : Envd} {H : Hp} {σ' : L2.St} {i j : Nat} (R : SR A S e σ H) (hi : A.ks[i]? = some .val) (hj : A.ks[j]? = some .val) (hl : σ'.length = σ.length) (ho : ∀ k, k ≠ i → k ≠ j → σ'[k]? = σ[k]?) : SR A S ((e.set i none).set j none) σ' H := by
  have no : ∀ k, Ownish A k → k ≠ i ∧ k ≠ j := fun k h => ⟨fun z => not_ownish hi (z ▸ h), fun z => not_ownish hj (z ▸ h)⟩
  refine R.move (by rw [List.length_set, List.length_set, hl]; exact R.len) (fun k h => ho k (no k h).1 (no k h).2) (fun k h o => ?_) fun k d h => ?_
  · rw [List.getElem?_set_ne (no k o).2.symm, List.getElem?_set_ne (no k o).1.symm] at h
    rw [ho k (no k o).1 (no k o).2]
    exact R.non k h o
  · by_cases z1 : k = j
    · subst z1
      by_cases hl : k < (e.set i none).length
      · rw [List.getElem?_set_self hl] at h; cases h
      · rw [List.getElem?_eq_none_iff.mpr (by rw [List.length_set]; omega)] at h; cases h
    · rw [List.getElem?_set_ne (Ne.symm z1)] at h
      by_cases z2 : k = i
      · subst z2
        by_cases hl : k < e.length
        · rw [List.getElem?_set_self hl] at h; cases h
        · rw [List.getElem?_eq_none_iff.mpr (by rw [List.length_set]; omega)] at h; cases h
      · rw [List.getElem?_set_ne (Ne.symm z2)] at h
        obtain ⟨v, h1, h2⟩ := R.slot k d h
        exact ⟨v, by rw [ho k z2 z1]; exact h1, h2⟩
/-- the state while they are changed: all that stood there before stands -/
def DpI (A : Ac) (S : AS) (e : Envd) (σ : L2.St) (H : Hp) (i j : Nat) (p : Addr) (vs : List V) (n : Nat) (σ' : L2.St) (H' : Hp) : Prop :=
  Kp (fun _ => False) H H' ∧ σ'.length = σ.length ∧ (∀ k, k ≠ i → k ≠ j → σ'[k]? = σ[k]?) ∧ σ'[i]? = some (some (.ref p)) ∧ H' p = some (.lst vs) ∧ ∀ v ∈ vs, ∃ b ys, v = .ref b ∧ H b = none ∧ b ≠ p ∧ H' b = some (.lst ys) ∧ ys.length + 2000 ≤ LIM + n
theorem allFr_keep : ∀ {es : Es}, allFr C es = true → keepEs C es = true
  | .nil, _ => rfl
  | .cons x r, h => by
    rw [allFr, Bool.and_eq_true, decide_eq_true_eq] at h
    rw [keepEs, Bool.and_eq_true, Bool.or_eq_true]
    exact ⟨.inl (decide_eq_true h.1), allFr_keep h.2⟩
  | .cel i r, h => by cases h
def tAp (C : Cfg) (G : Gam) (A : Ac) (es : Es) : TA := fun σ H Q => ∃ bo, tA (C.pv []) G (A.pv [] bo) es σ H Q
theorem sS_dpx {n m : Str} {as : List Expr} {es : Es} {Z : List Nat} {c : E} {p : List Sm} {cx : Expr} {ab rest : List Stmt} {i j : Nat} {ss : List Sm} {u : Nat} {p1 p3 p4 p5 lp pos1 pos2 pos3 apos cpos epos kp : Pos}
    (hK : X.K = A.K) (hp : PassesOwn (model X.prog X.w) X.A X.env X.xe) (hc : X.calm = true) (hi : A.ks[i]? = some .val) (hj : A.ks[j]? = some .val) (hij : i ≠ j) (hN : X.N.Nodup) (hNi : X.N[i]? = some n) (hNj : X.N[j]? = some m)
    (li : Loc X.env.scope n) (lj : Loc X.env.scope m) (fi : X.fn n = true ∨ X.env.scope.names.lookup n = some .local) (fj : X.fn m = true ∨ X.env.scope.names.lookup m = some .local)
    (vi : Vis X.env.scope n) (di : (n == ("__debug__" : Str)) = false) (ci : (n == ("__classdict__" : Str)) = false) (vj : Vis X.env.scope m) (dj : (m == ("__debug__" : Str)) = false) (cj : (m == ("__classdict__" : Str)) = false)
    (hs : swapsWith (.List as lp) (some (.Name n p1)) pos1.line X.env = pure false) (hk : allFr (C.pv []) es = true) (hl : lenEs es ≤ 1000) (ha : PA X as (tAp C G A es))
    (ht : PT X cx (tTz G A Z c)) (hb : PSs X ab (tSs C G A p)) (hl2 : (apos.endLine == cpos.line) = true) (hr : PSs X rest (tSs C G A ss)) :
    PSs X (.Assign [.Name n p1] (.List as lp) pos1 :: .If cx ab [] pos2 :: .For (.Name m p3) (.Name n p4) [.Expr (.Call (.Attribute (.Name m p5) "append" apos) [.Constant .none u kp] [] cpos) epos] [] pos3 :: rest) (tSs C G A (.dpx i j es Z c p :: ss)) :=
  (pss_cons (ps_set hN hNi li (pe_lst ha) hs fi) (pss_cons (ps_if ht hb pss_nil) (pss_cons (ps_for hp hc (pi_seq (pe_var hNi vi di ci)) (pg_name hN hNj lj fj)
    (pss_cons (ps_expr (pe_bm (o := .Name m p5) PySem.F.plainAttrs_list PySem.F.slot_list_append PySem.F.type_list_append mt_append (pe_var hNj vj dj cj) (pa_cons pe_non pa_nil (star_cons rfl)) rfl (few_one rfl) hl2 (star_cons rfl) rfl) rfl) pss_nil)) hr))).weak fun D σ H ⟨S, e, r, e', R, h, P⟩ => by
    rw [denSs, denS] at h
    cases q : denEs G es e with
    | none => rw [q] at h; cases h
    | some o =>
    obtain ⟨r1, e1⟩ := o
    rw [q] at h
    refine ⟨_, S, e, r1, e1, pv_nil R, q, ?_⟩
    cases r1 with
    | error y =>
      cases h
      exact fun cls dd H' k1 R' ex => P cls dd H' (R.kp0 (pv_ext k1)).endR ex
    | ok ds =>
    intro vs H1 k1 R1 vrs
    simp only at h
    split at h
    case isFalse => cases h
    rename_i hz
    obtain ⟨hsh, hil, hjl, hz⟩ := hz
    have xt := pv_ext k1
    have fr := VRs.frs (H0 := H) hk (fun a z => z) vrs hsh
    have vl := vrs.len
    refine ⟨by show vs.length ≤ 16777216; omega, fun b hpn => ?_⟩
    have hpn0 : H b = none := none_back xt hpn
    have x2 : Kp (fun _ => False) H (upd H1 b (.lst vs)) := xt.trans (Kp.ext (Ext.new hpn))
    have rl : RepL A.K S H1 ds vs := VRs.rep (A := A.pv [] fun a => A.bo a ∨ CelAt A σ a) (allFr_keep hk) R.dom vrs
    have rp : Rep A.K S (upd H1 b (.lst vs)) (.lst ds) (.ref b) := .lst (.inl ⟨fun z => R.dom b z hpn0, .inl upd_same⟩) ((rl.newP hpn).avoid fun a z => .inl (.inl z))
    have R2 := (R.kp0 x2).setVal hi rp
    cases q2 : tst (denE G c (e.set i (some (.lst ds)))) with
    | none => rw [q2] at h; cases h
    | some o2 =>
    obtain ⟨r2, e2⟩ := o2
    rw [q2] at h
    refine ⟨_, _, _, r2, e2, R2.pv hz, q2, ?_⟩
    cases r2 with
    | error y =>
      cases h
      exact fun cls dd H' k3 R3 ex => P cls dd H' (R2.kp0 (pv_ext k3)).endR ex
    | ok k =>
    intro k' H3 k3 R3 ek
    subst ek
    have x3 := pv_ext k3
    have R4 := R2.kp0 x3
    cases k' with
    | true =>
      rw [if_pos rfl]
      simp only [if_pos] at h
      cases q3 : denSs G p (e.set i (some (.lst ds))) with
      | none => rw [q3] at h; cases h
      | some o3 =>
      obtain ⟨r3, e3⟩ := o3
      rw [q3] at h
      cases r3 with
      | error y => cases h
      | ok f =>
        cases f with
        | rt d => cases h; exact ⟨S, _, _, _, R4, q3, P⟩
        | nx => cases h
        | bk => cases h
        | ct => cases h
    | false =>
      rw [if_neg Bool.false_ne_true]
      simp only [if_neg Bool.false_ne_true] at h
      have h : denSs G ss ((e.set i none).set j none) = some (r, e') := h
      have sl : (σ.set i (some (V.ref b))).length = σ.length := List.length_set
      have hil' : i < σ.length := by rw [← R.len]; exact hil
      have hjl' : j < σ.length := by rw [← R.len]; exact hjl
      have x23 : Kp (fun _ => False) H H3 := x2.trans x3
      have h3b : H3 b = some (.lst vs) := x3.keep b _ upd_same (fun z => z) fun _ z => nomatch z
      refine ⟨.ref b, List.getElem?_set_self hil', .inl ⟨b, vs, rfl, .inl (.inl h3b), fun t mm σ' H' => DpI A S e σ H i j b vs t σ' H' ∧ t + mm = vs.length, ⟨vs.length, ⟨x23, sl, fun k ki kj => List.getElem?_set_ne (Ne.symm ki), List.getElem?_set_self hil', h3b, fun v hv => ?_⟩, by omega⟩, ?_⟩⟩
      · obtain ⟨a, ys, e1', e2', e3', e4'⟩ := fr v hv
        have nb : a ≠ b := fun z => by rw [z, hpn] at e3'; cases e3'
        refine ⟨a, ys, e1', e2', nb, x3.keep a _ (by rw [upd_ne nb]; exact e3') (fun z => z) (fun _ z => nomatch z), by omega⟩
      · rintro t mm σt Ht ⟨⟨w1, w2, w3, w4, w5, w6⟩, w7⟩
        by_cases htl : t < vs.length
        · obtain ⟨x, hx⟩ : ∃ x, vs[t]? = some x := ⟨_, List.getElem?_eq_getElem htl⟩
          refine .inr ⟨⟨vs, x, .inl (.inl w5), hx⟩, fun σ' H' => DpI A S e σ H i j b vs (t + 1) σ' H' ∧ t + 1 + (mm - 1) = vs.length, fun σ' H' z => ⟨mm - 1, by omega, z⟩, fun y H' ⟨ey, fy⟩ => ?_⟩
          subst ey
          have ex := fy vs (.inl (.inl w5))
          rw [hx] at ex
          cases ex
          obtain ⟨a, ys, e1', e2', e3', e4', e5'⟩ := w6 x (List.mem_of_getElem? hx)
          subst e1'
          refine ⟨.ref a, List.getElem?_set_self (by rw [w2]; exact hjl'), .inl ⟨rfl, ys, .inl (.inl e4')⟩, a, ys, .non, rfl, rfl, e4', by show ys.length < 16777216; have e5'' : ys.length + 2000 ≤ 16777216 + t := e5'; omega, ?_⟩
          have k1 : Kp (fun x => x = a) H (upd H' a (.lst (ys ++ [.non]))) := (w1.mono (fun _ z => z.elim)).trans (kp_upd e4' (fun xs z => nomatch z) (fun o u z => nomatch z) (fun _ z => nomatch z) fun _ _ z => by unfold LamX.CodeO at z; cases z)
          have kd : Kp (fun _ => False) H (upd H' a (.lst (ys ++ [.non]))) := ⟨fun z o hz n tt => k1.keep z o hz (fun q => by rw [q, e2'] at hz; cases hz) tt, k1.tup, k1.dom, k1.frz, k1.tbl⟩
          refine ⟨⟨kd, by rw [List.length_set]; exact w2, fun k ki kj => by rw [List.getElem?_set_ne (Ne.symm kj)]; exact w3 k ki kj, by rw [List.getElem?_set_ne (Ne.symm hij)]; exact w4, by rw [upd_ne (Ne.symm e3')]; exact w5, fun v hv => ?_⟩, by omega⟩
          obtain ⟨a2, ys2, f1, f2, f3, f4, f5⟩ := w6 v hv
          by_cases na : a2 = a
          · subst na
            rw [e4'] at f4
            cases f4
            exact ⟨a2, _, f1, f2, f3, upd_same, by rw [List.length_append]; simp only [List.length_cons, List.length_nil]; omega⟩
          · exact ⟨a2, ys2, f1, f2, f3, by rw [upd_ne na]; exact f4, by omega⟩
        · refine .inl ⟨⟨vs, .inl (.inl w5), by omega⟩, S, _, r, e', (R.kp0 w1).junk hi hj w2 w3, h, ?_⟩
          have no : ∀ k, Ownish A k → k ≠ i ∧ k ≠ j := fun k z => ⟨fun q => not_ownish hi (q ▸ z), fun q => not_ownish hj (q ▸ z)⟩
          have mv : Mv A (mutSs ss) S σ H S σt Ht := ⟨w1.mono fun a z => z.elim, fun a z => .inl z, fun k a ho z => .inl (by rw [← w3 k (no k ho).1 (no k ho).2]; exact z), fun k ho _ => w3 k (no k ho).1 (no k ho).2⟩
          have P2 : PostS C A (mutSs ss) S σ H D r e' := P.mono fun k z => by rw [mutSs]; exact List.mem_append_right _ z
          exact P2.shift mv
/-! ### a display's item; a statement never reached -/
theorem VwL.kp {K : PySem.W.Frag} {S W : AS} {H H' : Hp} (k : Kp W H H') (m : ∀ b, W b → S b) : ∀ {ds : List D} {vs : List V}, VwL K W S H ds vs → VwL K W S H' ds vs
  | _, _, .nil => .nil
  | _, _, .cons a b => .cons (a.kp k m) (b.kp k m)
theorem VwL.get {K : PySem.W.Frag} {S W : AS} {H : Hp} : ∀ {ds : List D} {vs : List V}, VwL K W S H ds vs → ∀ {i : Nat} {d : D}, ds[i]? = some d → ∃ v, vs[i]? = some v ∧ Vw K W S H d v
  | _, _, .nil, i, d, h => by cases h
  | _, _, .cons (v := v) a b, 0, d, h => by cases h; exact ⟨v, rfl, a⟩
  | _, _, .cons a b, i + 1, d, h => b.get (i := i) h
theorem VwL.len {K : PySem.W.Frag} {S W : AS} {H : Hp} : ∀ {ds : List D} {vs : List V}, VwL K W S H ds vs → ds.length = vs.length
  | _, _, .nil => rfl
  | _, _, .cons a b => congrArg (· + 1) b.len
theorem VwL.atI {K : PySem.W.Frag} {S W : AS} {H : Hp} {ds : List D} {vs : List V} {i : Int} {d : D} (r : VwL K W S H ds vs) (h : L2.atI ds i = some d) : ∃ v, L2.atI vs i = some v ∧ Vw K W S H d v := by
  unfold L2.atI at h ⊢
  rw [← r.len]
  cases q : L2.ixN ds.length i with
  | none => rw [q] at h; cases h
  | some k => rw [q] at h; exact r.get h
theorem sE_lix {b : Expr} {as : List Expr} {es : Es} {x : E} {lp : Pos} (hK : X.K = A.K) (hp : plainEs es = true) (hl : lenEs es ≤ 1000) (hn : notSlice b = true) (ha : PA X as (tA C G A es)) (hb : PE X b (tE (C := C) G A x)) : PE X (.Subscript (.List as lp) b pos) (tE (C := C) G A (.lix es x)) := by
  refine (pe_ix ix_list (pe_lst ha) hb (plainIx_of hn)).weak fun σ H Q ⟨S, e, r, e', R, h, P⟩ => ?_
  refine tA_then R (by simpa only [denE] using h) P.err fun ds e1 vs H1 h1 k1 R1 v1 => ?_
  have vl := v1.len
  refine ⟨by show vs.length ≤ 16777216; omega, fun p hpn => ?_⟩
  have xt : Ext H1 (upd H1 p (.lst vs)) := Ext.new hpn
  have R2 := R1.ext xt
  refine tE_then R2 h1 ((P.shift k1).shift (Kp.ext xt)).err fun k e2 v2 H2 h2 k2 R3 v2' => ?_
  obtain ⟨w, hw, rfl, rfl⟩ := bnd_pr h2
  have vv : VwL A.K (CelAt A σ) S H1 ds vs := v1.vw hp R.celD
  have v3 := (vv.kp (Kp.ext xt) R.celS).kp k2 R.celS
  have np : ¬ CelAt A σ p := fun z => R1.celD p z hpn
  have hp2 : H2 p = some (.lst vs) := k2.keep p _ upd_same np fun _ z => nomatch z
  cases k with
  | int i =>
    obtain ⟨v, hv, rv⟩ := v3.atI hw
    have e2' : v2 = .int i := by
      have := v2'.vw R2.celD
      exact this.int
    refine ⟨p, vs, i, v, rfl, e2', .inl (.inl hp2), hv, ?_⟩
    exact (((P.shift k1).shift (Kp.ext xt)).shift k2).done R3 (Ext.refl _) rv
  | _ => cases hw
theorem sS_bad {st : Stmt} : PS X st (tS C G A .bad) := ⟨fun pins s σ H D I ⟨S, e, r, e', R, h, P⟩ => by rw [denS] at h; cases h⟩
end Rf

set_option maxRecDepth 100000
set_option maxHeartbeats 2000000
/-! Rd2: a new list, some of its new lists changed by their place. -/
namespace Rf
open PySem PySem.Spec PyProof.Rows L2
variable [TN]
variable {X : Cx} {C : Cfg} {G : Gam} {A : Ac} {S : AS} {σ : L2.St} {pos : Pos}
theorem at_natV {α : Type} (xs : List α) (i : Nat) : L2.atI xs (i : Int) = xs[i]? := by
  unfold L2.atI L2.ixN
  rw [if_pos (by omega)]
  by_cases h : i < xs.length
  · rw [if_pos (by omega)]; simp
  · rw [if_neg (by omega), List.getElem?_eq_none (by omega)]; rfl
/-- what is left behind statements n[m].append(None) -/
def chkAp (n : Str) : List Nat → List Stmt → Option (List Stmt)
  | [], rest => some rest
  | m :: ms, a => (match a with
    | .Expr (.Call (.Attribute (.Subscript (.Name n2 _) (.Constant (.int k) _ _) _) ap apos) [.Constant .none _ _] [] cpos) _ :: sts =>
      if (decide (n2 = n ∧ k = (m : Int) ∧ ap = "append") && (apos.endLine == cpos.line)) = true then chkAp n ms sts else none
    | _ => none)
def InvN (H : Hp) (p : Addr) (vs : List V) (t : Nat) (ms : List Nat) (H' : Hp) : Prop :=
  Kp (fun _ => False) H H' ∧ H' p = some (.lst vs) ∧ ∀ m ∈ ms, ∃ b ys, vs[m]? = some (V.ref b) ∧ H b = none ∧ b ≠ p ∧ H' b = some (.lst ys) ∧ ys.length + 2000 ≤ LIM + t
def tAps (i : Nat) (ms : List Nat) (u : TS) : TS := fun D σ H' => ∃ (H : Hp) (p : Addr) (vs : List V) (t : Nat), σ[i]? = some (some (V.ref p)) ∧ InvN H p vs t ms H' ∧ t + ms.length ≤ 1500 ∧ ∀ H2, Kp (fun _ => False) H H2 → u D σ H2
theorem sS_aps {n : Str} {i : Nat} {u : TS} {rest : List Stmt} (hN : X.N[i]? = some n) (hvis : Vis X.env.scope n) (hd : (n == ("__debug__" : Str)) = false) (hcd : (n == ("__classdict__" : Str)) = false) (hr : PSs X rest u) : ∀ (ms : List Nat) (sts : List Stmt), chkAp n ms sts = some rest → PSs X sts (tAps i ms u)
  | [], sts, h => by
    cases h
    exact hr.weak fun D σ H' ⟨H, p, vs, t, _, w, _, f⟩ => f H' w.1
  | m :: ms, sts, h => by
    unfold chkAp at h
    split at h
    · rename_i n2 q1 k q2 q3 q4 ap apos q5 q6 cpos q7 sts'
      split at h
      · rename_i hh
        simp only [Bool.and_eq_true, decide_eq_true_eq] at hh
        obtain ⟨⟨rfl, rfl, rfl⟩, hl⟩ := hh
        have ih := sS_aps hN hvis hd hcd hr ms sts' h
        refine (pss_cons (ps_expr (pe_bm (o := .Subscript (.Name n2 q1) (.Constant (.int (m : Int)) q2 q3) q4) PySem.F.plainAttrs_list PySem.F.slot_list_append PySem.F.type_list_append mt_append (pe_ix ix_list (pe_var hN hvis hd hcd) pe_int (plainIx_of rfl)) (pa_cons pe_non pa_nil (star_cons rfl)) rfl (few_one rfl) hl (star_cons rfl) rfl) rfl) ih).weak fun D σ H' ⟨H, p, vs, t, w0, ⟨w1, w2, w3⟩, w4, w5⟩ => ?_
        obtain ⟨b, ys, e1, e2, e3, e4, e5⟩ := w3 m List.mem_cons_self
        rw [List.length_cons] at w4
        have ha : L2.atI vs (m : Int) = some (V.ref b) := by rw [at_natV]; exact e1
        refine ⟨.ref p, w0, p, vs, (m : Int), .ref b, rfl, rfl, .inl (.inl w2), ha, .inl ⟨rfl, ys, .inl (.inl e4)⟩, b, ys, .non, rfl, rfl, e4, by show ys.length < 16777216; have e5' : ys.length + 2000 ≤ 16777216 + t := e5; omega, ?_⟩
        have k1 : Kp (fun x => x = b) H (upd H' b (.lst (ys ++ [.non]))) := (w1.mono (fun _ z => z.elim)).trans (kp_upd e4 (fun xs z => nomatch z) (fun o u z => nomatch z) (fun _ z => nomatch z) fun _ _ z => by unfold LamX.CodeO at z; cases z)
        have kd : Kp (fun _ => False) H (upd H' b (.lst (ys ++ [.non]))) := ⟨fun z o hz n tt => k1.keep z o hz (fun q => by rw [q, e2] at hz; cases hz) tt, k1.tup, k1.dom, k1.frz, k1.tbl⟩
        refine ⟨H, p, vs, t + 1, w0, ⟨kd, by rw [upd_ne (Ne.symm e3)]; exact w2, fun m2 hm2 => ?_⟩, by omega, w5⟩
        obtain ⟨b2, ys2, f1, f2, f3, f4, f5⟩ := w3 m2 (List.mem_cons_of_mem _ hm2)
        by_cases nb : b2 = b
        · subst nb
          rw [e4] at f4
          cases f4
          exact ⟨b2, _, f1, f2, f3, upd_same, by rw [List.length_append]; simp only [List.length_cons, List.length_nil]; omega⟩
        · exact ⟨b2, ys2, f1, f2, f3, by rw [upd_ne nb]; exact f4, by omega⟩
      · cases h
    · cases h
/-- each place of ms holds what is new -/
def frAt (C : Cfg) : Es → Nat → Bool
  | .nil, _ => false
  | .cons x _, 0 => decide (kdE C x = .fr)
  | .cons _ r, m + 1 => frAt C r m
  | .cel _ _, _ => false
theorem VRs.frAt {H0 : Hp} : ∀ {es : Es} {H H' : Hp} {ds : List D} {vs : List V} {m : Nat}, Rf.frAt C es m = true → (∀ a, H0 a ≠ none → H a ≠ none) → VRs C A S σ es H H' ds vs → shortAt ds m = true → ∃ b ys, vs[m]? = some (V.ref b) ∧ H0 b = none ∧ H' b = some (.lst ys) ∧ ys.length + 2000 ≤ LIM
  | .nil, _, _, _, _, _, h, _, _, _ => by cases h
  | .cel _ _, _, _, _, _, _, h, _, _, _ => by cases h
  | .cons x r, H, H', ds, vs, 0, ha, hd, h, hs => by
    obtain ⟨d, ds', v0, vs', H1, rfl, rfl, h1, h2, h3, h4⟩ := h
    have ha : kdE C x = .fr := of_decide_eq_true ha
    rw [ha] at h3
    have h3 : Fr A.K S H H' d v0 ∧ isDic d = false := h3
    cases d with
    | lst xs =>
      obtain ⟨p, e1, e2, ys, e3, e4⟩ := h3.1
      refine ⟨p, ys, by rw [e1]; rfl, ?_, e3, ?_⟩
      · cases q : H0 p with
        | none => rfl
        | some o => exact absurd e2 (hd p (by rw [q]; exact fun z => nomatch z))
      · have := of_decide_eq_true (show decide (xs.length + 2000 ≤ LIM) = true from hs)
        rw [← e4.length]
        exact this
    | _ => cases hs
  | .cons x r, H, H', ds, vs, m + 1, ha, hd, h, hs => by
    obtain ⟨d, ds', v0, vs', H1, rfl, rfl, h1, h2, h3, h4⟩ := h
    obtain ⟨b, ys, e1, e2⟩ := VRs.frAt (m := m) (es := r) ha (fun a z => h1 a (hd a z)) h4 hs
    exact ⟨b, ys, e1, e2⟩
theorem SR.junk1 {e : Envd} {H : Hp} {σ' : L2.St} {i : Nat} (R : SR A S e σ H) (hi : A.ks[i]? = some .val) (hl : σ'.length = σ.length) (ho : ∀ k, k ≠ i → σ'[k]? = σ[k]?) : SR A S (e.set i none) σ' H := by
  have := R.junk hi hi hl fun k a _ => ho k a
  rw [List.set_set] at this
  exact this
theorem sS_dpn {n : Str} {as : List Expr} {es : Es} {Z ms : List Nat} {c : E} {p : List Sm} {cx : Expr} {ab sts rest : List Stmt} {i : Nat} {ss : List Sm} {p1 lp pos1 pos2 : Pos}
    (hi : A.ks[i]? = some .val) (hN : X.N.Nodup) (hNi : X.N[i]? = some n) (li : Loc X.env.scope n) (fi : X.fn n = true ∨ X.env.scope.names.lookup n = some .local)
    (vi : Vis X.env.scope n) (di : (n == ("__debug__" : Str)) = false) (ci : (n == ("__classdict__" : Str)) = false)
    (hs : swapsWith (.List as lp) (some (.Name n p1)) pos1.line X.env = pure false) (hk : ms.all (frAt (C.pv []) es) = true) (hkk : keepEs (C.pv []) es = true) (hl : lenEs es ≤ 1000) (ha : PA X as (tAp C G A es))
    (ht : PT X cx (tTz G A Z c)) (hb : PSs X ab (tSs C G A p)) (hap : chkAp n ms sts = some rest) (hr : PSs X rest (tSs C G A ss)) :
    PSs X (.Assign [.Name n p1] (.List as lp) pos1 :: .If cx ab [] pos2 :: sts) (tSs C G A (.dpn i es ms Z c p :: ss)) :=
  (pss_cons (ps_set hN hNi li (pe_lst ha) hs fi) (pss_cons (ps_if ht hb pss_nil) (sS_aps hNi vi di ci hr ms sts hap))).weak fun D σ H ⟨S, e, r, e', R, h, P⟩ => by
    rw [denSs, denS] at h
    cases q : denEs G es e with
    | none => rw [q] at h; cases h
    | some o =>
    obtain ⟨r1, e1⟩ := o
    rw [q] at h
    refine ⟨_, S, e, r1, e1, pv_nil R, q, ?_⟩
    cases r1 with
    | error y =>
      cases h
      exact fun cls dd H' k1 R' ex => P cls dd H' (R.kp0 (pv_ext k1)).endR ex
    | ok ds =>
    intro vs H1 k1 R1 vrs
    simp only at h
    split at h
    case isFalse => cases h
    rename_i hz
    obtain ⟨hsh, hml, hil, hz⟩ := hz
    have xt := pv_ext k1
    have vl := vrs.len
    refine ⟨by show vs.length ≤ 16777216; omega, fun b hpn => ?_⟩
    have hpn0 : H b = none := none_back xt hpn
    have x2 : Kp (fun _ => False) H (upd H1 b (.lst vs)) := xt.trans (Kp.ext (Ext.new hpn))
    have rl : RepL A.K S H1 ds vs := VRs.rep (A := A.pv [] fun a => A.bo a ∨ CelAt A σ a) hkk R.dom vrs
    have rp : Rep A.K S (upd H1 b (.lst vs)) (.lst ds) (.ref b) := .lst (.inl ⟨fun z => R.dom b z hpn0, .inl upd_same⟩) ((rl.newP hpn).avoid fun a z => .inl (.inl z))
    have R2 := (R.kp0 x2).setVal hi rp
    cases q2 : tst (denE G c (e.set i (some (.lst ds)))) with
    | none => rw [q2] at h; cases h
    | some o2 =>
    obtain ⟨r2, e2⟩ := o2
    rw [q2] at h
    refine ⟨_, _, _, r2, e2, R2.pv hz, q2, ?_⟩
    cases r2 with
    | error y =>
      cases h
      exact fun cls dd H' k3 R3 ex => P cls dd H' (R2.kp0 (pv_ext k3)).endR ex
    | ok k =>
    intro k' H3 k3 R3 ek
    subst ek
    have x3 := pv_ext k3
    have R4 := R2.kp0 x3
    cases k' with
    | true =>
      rw [if_pos rfl]
      simp only [if_pos] at h
      cases q3 : denSs G p (e.set i (some (.lst ds))) with
      | none => rw [q3] at h; cases h
      | some o3 =>
      obtain ⟨r3, e3⟩ := o3
      rw [q3] at h
      cases r3 with
      | error y => cases h
      | ok f =>
        cases f with
        | rt d => cases h; exact ⟨S, _, _, _, R4, q3, P⟩
        | nx => cases h
        | bk => cases h
        | ct => cases h
    | false =>
      rw [if_neg Bool.false_ne_true]
      simp only [if_neg Bool.false_ne_true] at h
      have h : denSs G ss (e.set i none) = some (r, e') := h
      have hil' : i < σ.length := by rw [← R.len]; exact hil
      have x23 : Kp (fun _ => False) H H3 := x2.trans x3
      have h3b : H3 b = some (.lst vs) := x3.keep b _ upd_same (fun z => z) fun _ z => nomatch z
      refine ⟨H, b, vs, 0, List.getElem?_set_self hil', ⟨x23, h3b, fun m hm => ?_⟩, by omega, fun H5 k5 => ?_⟩
      · obtain ⟨a, ys, e1', e2', e3', e4'⟩ := VRs.frAt (H0 := H) (List.all_eq_true.mp hk m hm) (fun a z => z) vrs (List.all_eq_true.mp hsh m hm)
        have nb : a ≠ b := fun z => by rw [z, hpn] at e3'; cases e3'
        exact ⟨a, ys, e1', e2', nb, x3.keep a _ (by rw [upd_ne nb]; exact e3') (fun z => z) (fun _ z => nomatch z), by omega⟩
      · have hlen : (σ.set i (some (V.ref b))).length = σ.length := List.length_set
        have hother : ∀ k, k ≠ i → (σ.set i (some (V.ref b)))[k]? = σ[k]? := fun k z => List.getElem?_set_ne (Ne.symm z)
        have no : ∀ k, Ownish A k → k ≠ i := fun k z => fun q => not_ownish hi (q ▸ z)
        refine ⟨S, _, r, e', (R.kp0 k5).junk1 hi hlen hother, h, ?_⟩
        have mv : Mv A (mutSs ss) S σ H S (σ.set i (some (V.ref b))) H5 := ⟨k5.mono fun a z => z.elim, fun a z => .inl z, fun k a ho z => .inl (by rw [← hother k (no k ho)]; exact z), fun k ho _ => hother k (no k ho)⟩
        have P2 : PostS C A (mutSs ss) S σ H D r e' := P.mono fun k z => by rw [mutSs]; exact List.mem_append_right _ z
        exact P2.shift mv
end Rf

set_option maxRecDepth 100000
set_option maxHeartbeats 2000000
/-! Rf20: a check that a text of the model's is the text of the small language; what it is worth. -/
namespace Rf
open PySem PySem.Spec PyProof.Rows L2

/-! ### expressions -/
def visB (sc : Scope) (n : Str) : Bool := match sc.names.lookup n with
  | some .local => true
  | some .cell => true
  | some .free => true
  | _ => false
def locB (sc : Scope) (n : Str) : Bool := match sc.names.lookup n with
  | some .local => true
  | some .cell => true
  | _ => false
def notDbg (n : Str) : Bool := !(n == ("__debug__" : Str)) && !(n == ("__classdict__" : Str))
/-- the name in slot i -/
def slotB (C : Cfg) (sc : Scope) (i : Nat) (n : Str) : Bool := decide (C.N[i]? = some n) && (visB sc n && notDbg n)
/-- a name of the module or a built-in -/
def glB (sc : Scope) (n : Str) : Bool := decide (sc.names.lookup n = some .globalImplicit) && notDbg n
def bltB (C : Cfg) (sc : Scope) (n m : Str) : Bool := decide (n = m) && (glB sc n && C.bl.contains n)
def valS (C : Cfg) (is : List Nat) : Bool := is.all fun i => decide (C.ks[i]? = some .val)
def ownN (C : Cfg) (own : List Nat) : List (Str × Nat) := own.map fun i => (C.N.getD i "", i)
def keepK (C : Cfg) (x : E) : Bool := decide (kdE C x = .fr) || decide (kdE C x = .vl)
/-- a name that may be walked while the slots of M are changed -/
def walkB (C : Cfg) (sc : Scope) (M : List Nat) (x : E) (a : Expr) : Bool := match x, a with
  | .v i, .Name n _ => slotB C sc i n && walkV C M i
  | _, _ => false
mutual
def chkG (C : Cfg) (sc : Scope) : Tg → Expr → Bool
  | .nm i, a => (match a with
    | .Name n _ => decide (C.N[i]? = some n) && (locB sc n && decide (C.ks[i]? = some .val))
    | _ => false)
  | .tp ts, a => (match a with
    | .Tuple es _ _ => es.all notStar && (decide (es.length = ts.length) && chkGs C sc ts es)
    | _ => false)
def chkGs (C : Cfg) (sc : Scope) : List Tg → List Expr → Bool
  | [], a => (match a with
    | [] => true
    | _ => false)
  | t :: ts, a => (match a with
    | e :: es => notStar e && (chkG C sc t e && chkGs C sc ts es)
    | _ => false)
end
mutual
def chkE (C : Cfg) (sc : Scope) : E → Expr → Bool
  | .c d, a => (match a with
    | .Constant k _ _ => litC k d
    | _ => false)
  | .v i, a => (match a with
    | .Name n _ => slotB C sc i n && decide (C.ks[i]? ≠ some .cel)
    | _ => false)
  | .g j, a => (match a with
    | .Name n _ => decide (C.gcs[j]? = some n) && glB sc n
    | _ => false)
  | .tup es, a => (match a with
    | .Tuple as _ _ => keepEs C es && (decide (lenEs es ≤ 1000) && chkEs C sc es as)
    | _ => false)
  | .lst es, a => (match a with
    | .List as _ => keepEs C es && (decide (lenEs es ≤ 1000) && chkEs C sc es as)
    | _ => false)
  | .dic, a => (match a with
    | .Dict [] [] _ => true
    | _ => false)
  | .bin op x y, a => (match a with
    | .BinOp a op' b _ => decide (op = op') && (chkE C sc x a && chkE C sc y b)
    | _ => false)
  | .neg x, a => (match a with
    | .UnaryOp .USub a _ => chkE C sc x a
    | _ => false)
  | .cmp op x y, a => (match a with
    | .Compare a [op'] [b] _ => decide (op = op') && (notSet b && (chkE C sc x a && chkE C sc y b))
    | _ => false)
  | .chn o1 o2 x y z, a => (match a with
    | .Compare a [p1, p2] [b, c] _ => decide (o1 = p1 ∧ o2 = p2) && (notSet c && (chkE C sc x a && (chkE C sc y b && chkE C sc z c)))
    | _ => false)
  | .chn3 o1 o2 o3 x y z w, a => (match a with
    | .Compare a [p1, p2, p3] [b, c, d] _ => decide (o1 = p1 ∧ o2 = p2 ∧ o3 = p3) && (notSet d && (chkE C sc x a && (chkE C sc y b && (chkE C sc z c && chkE C sc w d))))
    | _ => false)
  | .and x y, a => (match a with
    | .BoolOp .And [a, b] _ => chkE C sc x a && chkE C sc y b
    | .BoolOp .And (a :: b :: c :: r) p => chkE C sc x a && chkE C sc y (.BoolOp .And (b :: c :: r) p)
    | _ => false)
  | .or x y, a => (match a with
    | .BoolOp .Or [a, b] _ => chkE C sc x a && chkE C sc y b
    | .BoolOp .Or (a :: b :: c :: r) p => chkE C sc x a && chkE C sc y (.BoolOp .Or (b :: c :: r) p)
    | _ => false)
  | .not x, a => (match a with
    | .UnaryOp .Not a _ => chkE C sc x a
    | _ => false)
  | .ite z x y, a => (match a with
    | .IfExp c a b _ => chkT C sc z c && (chkE C sc x a && chkE C sc y b)
    | _ => false)
  | .ix x y, a => (match a with
    | .Subscript a b _ => notSlice b && (chkE C sc x a && chkE C sc y b)
    | _ => false)
  | .cix i y, a => (match a with
    | .Subscript (.Name n _) b _ => notSlice b && (slotB C sc i n && chkE C sc y b)
    | _ => false)
  | .cin op x i, a => (match a with
    | .Compare a [op'] [.Name n _] _ => decide (op = op') && (slotB C sc i n && chkE C sc x a)
    | _ => false)
  | .sl x lo hi, a => (match a with
    | .Subscript a (.Slice l h none _) _ => chkE C sc x a && (chkO C sc lo l && chkO C sc hi h)
    | _ => false)
  | .rev _, _ => false
  | .bi b es, a => (match a with
    | .Call (.Name n _) (a :: as) [] _ => bltB C sc n b.name && (plainEs es && (notStar a && (as.all notStar && chkEs C sc es (a :: as))))
    | _ => false)
  | .isi x t, a => (match a with
    | .Call (.Name n _) [a, .Name m _] [] _ => bltB C sc n "isinstance" && (bltB C sc m t.py && (notStar a && chkE C sc x a))
    | _ => false)
  | .lset x, a => (match a with
    | .Call (.Name n _) [.Call (.Name m _) [a] [] _] [] _ => bltB C sc n "len" && (bltB C sc m "set" && (notStar a && chkE C sc x a))
    | _ => false)
  | .call j es cs, a => (match a with
    | .Call (.Name n _) as [] _ => (match C.fns[j]? with
      | some I => decide (n = I.name) && (glB sc n && (fitEs C I.pk es cs && (decide cs.Nodup && (as.all notStar && chkEs C sc es as))))
      | none => false)
    | _ => false)
  | .comp elt tg it cs own, a => (match a with
    | .ListComp eltx [⟨tgx, iter, ifs, 0⟩] scope _ => notSetD iter && (blkC C.N sc scope (ownN C own) && (valS C own && ((tgS tg).all (own.contains ·) && (keepK C elt && (chkG C scope tg tgx && (chkC C scope cs ifs && (chkE C scope elt eltx && chkI C sc [] it tgx iter)))))))
    | _ => false)
  | .lzip x y, a => (match a with
    | .Call (.Name n _) [.Call (.Name m _) [a, b] [] _] [] _ => bltB C sc n "list" && (bltB C sc m "zip" && (notStar a && (notStar b && (chkE C sc x a && chkE C sc y b))))
    | _ => false)
  | .tri x, a => (match a with
    | .Call (.Name n _) [.Lambda params body scope _] [] _ => C.tri && (decide (n = "_law_try") && (glB sc n && (LamX.lamSB sc scope && (noPar params && (keepK C.noTri x && chkE C.noTri scope x body)))))
    | _ => false)
  | .fn j m, a => (match a with
    | .Name n _ => decide (n = m) && (glB sc n && decide ((C.fns[j]?).map (·.name) = some n))
    | _ => false)
  | .callv i js es, a => (match a with
    | .Call (.Name n _) (a :: as) [] _ => slotB C sc i n && (decide (C.ks[i]? = some .val) && ((js.all fun p => match C.fns[p.1]? with
      | some I => decide (I.name = p.2) && fitEs C I.pk es []
      | none => false) && (notStar a && (as.all notStar && chkEs C sc es (a :: as)))))
    | _ => false)
  | .lix es x, a => (match a with
    | .Subscript (.List as _) b _ => plainEs es && (decide (lenEs es ≤ 1000) && (chkEs C sc es as && (notSlice b && chkE C sc x b)))
    | _ => false)
/-- as a test -/
def chkT (C : Cfg) (sc : Scope) : E → Expr → Bool
  | .cmp op x y, a => (match a with
    | .Compare a [op'] [b] _ => decide (op = op') && (notSet b && (chkE C sc x a && chkE C sc y b))
    | _ => false)
  | .chn o1 o2 x y z, a => (match a with
    | .Compare a [p1, p2] [b, c] _ => decide (o1 = p1 ∧ o2 = p2) && (notSet c && (chkE C sc x a && (chkE C sc y b && chkE C sc z c)))
    | _ => false)
  | .chn3 o1 o2 o3 x y z w, a => (match a with
    | .Compare a [p1, p2, p3] [b, c, d] _ => decide (o1 = p1 ∧ o2 = p2 ∧ o3 = p3) && (notSet d && (chkE C sc x a && (chkE C sc y b && (chkE C sc z c && chkE C sc w d))))
    | _ => false)
  | .cin op x i, a => (match a with
    | .Compare a [op'] [.Name n _] _ => decide (op = op') && (slotB C sc i n && chkE C sc x a)
    | _ => false)
  | .and x y, a => (match a with
    | .BoolOp .And [a, b] _ => chkT C sc x a && chkT C sc y b
    | .BoolOp .And (a :: b :: c :: r) p => chkT C sc x a && chkT C sc y (.BoolOp .And (b :: c :: r) p)
    | _ => false)
  | .or x y, a => (match a with
    | .BoolOp .Or [a, b] _ => chkT C sc x a && chkT C sc y b
    | .BoolOp .Or (a :: b :: c :: r) p => chkT C sc x a && chkT C sc y (.BoolOp .Or (b :: c :: r) p)
    | _ => false)
  | .not x, a => (match a with
    | .UnaryOp .Not a _ => chkT C sc x a
    | _ => false)
  | .c d, a => (match a with
    | .Constant k _ _ => litC k d
    | _ => false)
  | .v i, a => (match a with
    | .Name n _ => slotB C sc i n && decide (C.ks[i]? ≠ some .cel)
    | _ => false)
  | .bi b es, a => (match a with
    | .Call (.Name n _) (a :: as) [] _ => bltB C sc n b.name && (plainEs es && (notStar a && (as.all notStar && chkEs C sc es (a :: as))))
    | _ => false)
  | .isi x t, a => (match a with
    | .Call (.Name n _) [a, .Name m _] [] _ => bltB C sc n "isinstance" && (bltB C sc m t.py && (notStar a && chkE C sc x a))
    | _ => false)
  | .call j es cs, a => (match a with
    | .Call (.Name n _) as [] _ => (match C.fns[j]? with
      | some I => decide (n = I.name) && (glB sc n && (fitEs C I.pk es cs && (decide cs.Nodup && (as.all notStar && chkEs C sc es as))))
      | none => false)
    | _ => false)
  | _, _ => false
def chkEs (C : Cfg) (sc : Scope) : Es → List Expr → Bool
  | .nil, a => (match a with
    | [] => true
    | _ => false)
  | .cons x r, a => (match a with
    | a :: as => notStar a && (chkE C sc x a && chkEs C sc r as)
    | _ => false)
  | .cel i r, a => (match a with
    | .Name n _ :: as => slotB C sc i n && (decide (C.ks[i]? = some .cel) && chkEs C sc r as)
    | _ => false)
def chkO (C : Cfg) (sc : Scope) : Eo → Option Expr → Bool
  | .no, a => (match a with
    | none => true
    | _ => false)
  | .so x, a => (match a with
    | some a => chkE C sc x a
    | _ => false)
def chkC (C : Cfg) (sc : Scope) : Es → List Expr → Bool
  | .nil, a => (match a with
    | [] => true
    | _ => false)
  | .cons x r, a => (match a, r with
    | [a], .nil => chkT C sc x a
    | _, _ => false)
  | .cel _ _, _ => false
def chkI (C : Cfg) (sc : Scope) (M : List Nat) : It → Expr → Expr → Bool
  | .sq x, _, a => walkB C sc M x a || (decide (kdE C x ≠ .br) && chkE C sc x a)
  | .en x, t, a => (match t, a with
    | .Tuple _ _ _, .Call (.Name n _) [a] [] _ => bltB C sc n "enumerate" && (notStar a && (walkB C sc M x a || (decide (kdE C x ≠ .br) && chkE C sc x a)))
    | _, _ => false)
  | .zp x y, t, a => (match t, a with
    | .Tuple _ _ _, .Call (.Name n _) [a, b] [] _ => bltB C sc n "zip" && (notStar a && (notStar b && ((walkB C sc M x a || (decide (kdE C x ≠ .br) && chkE C sc x a)) && (walkB C sc M y b || (decide (kdE C y ≠ .br) && chkE C sc y b)))))
    | _, _ => false)
  | .r1 x, _, a => (match a with
    | .Call (.Name n _) [a] [] _ => bltB C sc n "range" && (notStar a && (decide (kdE C x ≠ .br) && chkE C sc x a))
    | _ => false)
  | .r2 x y, _, a => (match a with
    | .Call (.Name n _) [a, b] [] _ => bltB C sc n "range" && (notStar a && (notStar b && (decide (kdE C x ≠ .br) && (chkE C sc x a && (decide (kdE C y ≠ .br) && chkE C sc y b)))))
    | _ => false)
end
end Rf

set_option maxRecDepth 100000
set_option maxHeartbeats 2000000
/-! Rf21: what passes the check does what denE says. -/
namespace Rf
open PySem PySem.Spec PyProof.Rows L2
variable [TN]

/-- what is known around a text -/
structure Gd (X : Cx) (C : Cfg) (G : Gam) (A : Ac) : Prop where
  hK : X.K = A.K
  hks : A.ks = C.ks
  hN : X.N = C.N
  nd : X.N.Nodup
  calm : X.calm = true
  hu : X.A.units + 102 < cLine
  tk : L2N.Takes X (fun cls d _ H => A.XW cls d H)
  fns : ∀ (j : Nat) I, C.fns[j]? = some I → FnSt X A.ca A.cf I (G.fn j)
  bl : ∀ n, C.bl.contains n = true → X.mg n = none
  gcs : ∀ (j : Nat) n d, C.gcs[j]? = some n → G.gc j = some d → GcOk X A n d
  tri : C.tri = true → TriOk X C G A
/-- how the scope's names stand in the context -/
structure ScR (X : Cx) (sc : Scope) : Prop where
  l : ∀ n, sc.names.lookup n = some .local → X.env.scope.names.lookup n = some .local
  c : ∀ n, sc.names.lookup n = some .cell → X.env.scope.names.lookup n = some .cell ∧ X.fn n = true
  f : ∀ n, sc.names.lookup n = some .free → X.env.scope.names.lookup n = some .cell ∨ X.env.scope.names.lookup n = some .free
  g : ∀ n, sc.names.lookup n = some .globalImplicit → X.env.scope.names.lookup n = some .globalImplicit
  k : X.env.scope.kind = .function
theorem lookup_rel {g : Str → NameKind → NameKind} {x : Str} : ∀ {names : List (Str × NameKind)}, (names.map fun p => (p.1, g p.1 p.2)).lookup x = (names.lookup x).map (g x)
  | [] => rfl
  | (n, k) :: r => by
    rw [List.map_cons, List.lookup_cons, List.lookup_cons]
    cases q : x == n with
    | true =>
      have e : x = n := by simpa using q
      subst e
      rfl
    | false => exact lookup_rel
theorem relabel_eq {scope : Scope} {env : Env} {x : Str} : (relabel scope env).names.lookup x = (scope.names.lookup x).map fun k => if (k == .free && env.scope.kind == .function && env.kindOf x == some .cell) then .cell else k := by
  have e : (relabel scope env).names = scope.names.map fun p => (p.1, if (p.2 == .free && env.scope.kind == .function && env.kindOf p.1 == some .cell) then .cell else p.2) := by
    unfold relabel
    apply List.map_congr_left
    intro p _
    obtain ⟨n, k⟩ := p
    show (if _ then _ else _) = _
    split <;> rfl
  rw [e]
  exact lookup_rel (g := fun n k => if (k == .free && env.scope.kind == .function && env.kindOf n == some .cell) then .cell else k)
theorem ScR.blk {X : Cx} (s : Shared) (H : Hp) (scope : Scope) (D : Addr) (cl : List (Str × Addr)) (fp : List Addr) (hk : scope.kind = .function) : ScR (X.blk s H scope (compEnvC scope cl D X.env) fp) scope where
  l := fun n h => by
    show (relabel scope X.env).names.lookup n = _
    rw [relabel_eq, h]; rfl
  c := fun n h => by
    refine ⟨?_, ?_⟩
    · show (relabel scope X.env).names.lookup n = _
      rw [relabel_eq, h]; rfl
    · show (scope.names.lookup n == some .cell) = true
      rw [h]; rfl
  f := fun n h => by
    show (relabel scope X.env).names.lookup n = _ ∨ (relabel scope X.env).names.lookup n = _
    rw [relabel_eq, h]
    simp only [Option.map_some]
    split
    · exact .inl rfl
    · exact .inr rfl
  g := fun n h => by
    show (relabel scope X.env).names.lookup n = _
    rw [relabel_eq, h]; rfl
  k := hk
theorem Gd.blk {X : Cx} {C : Cfg} {G : Gam} {A : Ac} (g : Gd X C G A) (s : Shared) (H : Hp) (scope : Scope) (D : Addr) (cl : List (Str × Addr)) (fp : List Addr) : Gd (X.blk s H scope (compEnvC scope cl D X.env) fp) C G A.blk where
  hK := g.hK
  hks := g.hks
  hN := g.hN
  nd := g.nd
  calm := g.calm
  hu := g.hu
  tk := fun _ _ ⟨_, _, _, _, _, _, _, _, _, _, _, _, _, _, _, _, w⟩ => w.elim
  fns := g.fns
  bl := g.bl
  gcs := g.gcs
  tri := fun h => ⟨(g.tri h).ex⟩
theorem Gd.pv {X : Cx} {C : Cfg} {G : Gam} {A : Ac} (g : Gd X C G A) (Z : List Nat) (bo : AS) : Gd X (C.pv Z) G (A.pv Z bo) where
  hK := g.hK
  hks := by show A.ks.mapIdx (gP Z) = C.ks.mapIdx (gP Z); rw [g.hks]
  hN := g.hN
  nd := g.nd
  calm := g.calm
  hu := g.hu
  tk := g.tk
  fns := g.fns
  bl := g.bl
  gcs := g.gcs
  tri := fun h => ⟨(g.tri h).ex⟩
theorem Gd.fz {X : Cx} {C : Cfg} {G : Gam} {A : Ac} (g : Gd X C G A) (Z : List Nat) : Gd X (C.fz Z) G (A.fz Z) where
  hK := g.hK
  hks := by show A.ks.mapIdx (gF Z) = C.ks.mapIdx (gF Z); rw [g.hks]
  hN := g.hN
  nd := g.nd
  calm := g.calm
  hu := g.hu
  tk := g.tk
  fns := g.fns
  bl := g.bl
  gcs := g.gcs
  tri := fun h => ⟨(g.tri h).ex⟩

theorem Gd.lam {X : Cx} {C : Cfg} {G : Gam} {A : Ac} (g : Gd X C G A) {scope : Scope} {k : Nat} (hf : ∀ (j : Nat) I, C.fns[j]? = some I → FnLe X A.ca A.cf k I (G.fn j)) (A₀ : Around) (outer : List Env) (s : Shared) (H : Hp) (E : XK) (f c' : Addr)
    (room : Room k (A₀.deeper (LamX.lamEnv X scope s.heap.objs.size f c'))) : Gd (lamN X A₀ outer s H E scope f c') C.noTri G (A.xw E) where
  hK := g.hK
  hks := g.hks
  hN := g.hN
  nd := g.nd
  calm := rfl
  hu := by have h := room.un; show (A₀.deeper (LamX.lamEnv X scope s.heap.objs.size f c')).units + 102 < cLine; omega
  tk := L2N.takes_of rfl rfl rfl rfl
  fns := fun j I hI => by
    obtain ⟨fa, fd, ps, j', a, b, c, d, e⟩ := hf j I hI
    exact ⟨fa, fd, ps, j', a, b, c, d, room.mono e⟩
  bl := g.bl
  gcs := g.gcs
  tri := fun h => nomatch h
theorem ScR.lam {X : Cx} {scope : Scope} (L : LamX.LamS X.env.scope scope) (A₀ : Around) (outer : List Env) (s : Shared) (H : Hp) (E : XK) (f c' : Addr) : ScR (lamN X A₀ outer s H E scope f c') scope where
  l := fun n h => h
  c := fun n h => absurd rfl (L.own _ (PySem.mem_of_lookup h)).2
  f := fun n h => .inr h
  g := fun n h => h
  k := L.kind
/-- the scope of the text against the context's -/
theorem lamS_of {X : Cx} {sc scope : Scope} (r : ScR X sc) (h : LamX.lamSB sc scope = true) : LamX.LamS X.env.scope scope := by
  have L := LamX.lamS_by h
  refine ⟨L.kind, L.co, L.gen, L.own, fun y hy e => ?_⟩
  rcases L.free y hy e with z | z
  · exact .inl (r.c _ z).1
  · exact r.f _ z
theorem ScR.vis {X : Cx} {sc : Scope} (r : ScR X sc) {n : Str} (h : visB sc n = true) : Vis X.env.scope n := by
  unfold visB at h
  unfold Vis
  cases q : sc.names.lookup n with
  | none => rw [q] at h; cases h
  | some k =>
    rw [q] at h
    cases k with
    | «local» => exact .inl (r.l n q)
    | cell => exact .inr (.inl (r.c n q).1)
    | free => exact .inr (r.f n q)
    | _ => cases h
theorem ScR.loc {X : Cx} {sc : Scope} (r : ScR X sc) {n : Str} (h : locB sc n = true) : L2.Loc X.env.scope n ∧ (X.fn n = true ∨ X.env.scope.names.lookup n = some .local) := by
  unfold locB at h
  unfold L2.Loc
  cases q : sc.names.lookup n with
  | none => rw [q] at h; cases h
  | some k =>
    rw [q] at h
    cases k with
    | «local» => exact ⟨.inl (r.l n q), .inr (r.l n q)⟩
    | cell => exact ⟨.inr (r.c n q).1, .inl (r.c n q).2⟩
    | _ => cases h
theorem dbg_of {n : Str} (h : notDbg n = true) : (n == ("__debug__" : Str)) = false ∧ (n == ("__classdict__" : Str)) = false := by
  unfold notDbg at h
  rw [Bool.and_eq_true, Bool.not_eq_true', Bool.not_eq_true'] at h
  exact h
theorem ScR.blkOk {X : Cx} {sc scope : Scope} {N : List Str} {own : List (Str × Nat)} (r : ScR X sc) (hN : X.N = N) (h : blkC N sc scope own = true) : BlkOk X.N X.env.scope scope own := by
  have b := blkOk_by h
  rw [hN]
  refine ⟨b.kind, b.uniq, b.ix, fun y hy e => ?_, b.own⟩
  rcases b.free y hy e with z | z
  · exact .inl (r.c _ z).1
  · exact r.f _ z
section
variable {X : Cx} {C : Cfg} {G : Gam} {A : Ac} {sc : Scope}
theorem Gd.slot (g : Gd X C G A) (hs : ScR X sc) {i : Nat} {n : Str} (h : slotB C sc i n = true) : X.N[i]? = some n ∧ Vis X.env.scope n ∧ (n == ("__debug__" : Str)) = false ∧ (n == ("__classdict__" : Str)) = false := by
  unfold slotB at h
  rw [Bool.and_eq_true, Bool.and_eq_true, decide_eq_true_eq] at h
  obtain ⟨h1, h2, h3⟩ := h
  exact ⟨by rw [g.hN]; exact h1, hs.vis h2, (dbg_of h3).1, (dbg_of h3).2⟩
theorem gl_of (hs : ScR X sc) {n : Str} (h : glB sc n = true) : Gl X n ∧ (n == ("__debug__" : Str)) = false := by
  unfold glB at h
  rw [Bool.and_eq_true, decide_eq_true_eq] at h
  exact ⟨hs.g n h.1, (dbg_of h.2).1⟩
theorem Gd.blt (g : Gd X C G A) (hs : ScR X sc) {n m : Str} (h : bltB C sc n m = true) : n = m ∧ Gl X n ∧ X.mg n = none := by
  unfold bltB at h
  rw [Bool.and_eq_true, Bool.and_eq_true, decide_eq_true_eq] at h
  exact ⟨h.1, (gl_of hs h.2.1).1, g.bl n h.2.2⟩
theorem keep_of {x : E} (h : keepK C x = true) : kdE C x = .fr ∨ kdE C x = .vl := by
  unfold keepK at h
  rw [Bool.or_eq_true, decide_eq_true_eq, decide_eq_true_eq] at h
  exact h
theorem val_of {is : List Nat} (g : Gd X C G A) (h : valS C is = true) : ∀ i ∈ is, A.ks[i]? = some .val := fun i hi => by
  have := List.all_eq_true.mp h i hi
  rw [g.hks]
  exact of_decide_eq_true this
mutual
theorem sndG (g : Gd X C G A) (hs : ScR X sc) : ∀ (t : Tg) (e : Expr), chkG C sc t e = true → PG X e (tG G A t)
  | .nm i, e, h => by
    unfold chkG at h
    split at h
    · rename_i n p
      rw [Bool.and_eq_true, Bool.and_eq_true, decide_eq_true_eq, decide_eq_true_eq] at h
      obtain ⟨h1, h2, h3⟩ := h
      exact sG_nm (by rw [g.hks]; exact h3) g.nd (by rw [g.hN]; exact h1) (hs.loc h2).1 (hs.loc h2).2
    · cases h
  | .tp ts, e, h => by
    unfold chkG at h
    split at h
    · rename_i es k p
      rw [Bool.and_eq_true, Bool.and_eq_true, decide_eq_true_eq] at h
      exact sG_tp g.hK g.calm h.1 h.2.1 (sndGs g hs ts es h.2.2)
    · cases h
theorem sndGs (g : Gd X C G A) (hs : ScR X sc) : ∀ (ts : List Tg) (es : List Expr), chkGs C sc ts es = true → PGs X es (tGs G A ts)
  | [], es, h => by
    unfold chkGs at h
    split at h
    · exact sGs_nil
    · cases h
  | t :: ts, es, h => by
    unfold chkGs at h
    split at h
    · rename_i e es
      rw [Bool.and_eq_true, Bool.and_eq_true] at h
      exact sGs_cons h.1 (sndG g hs t e h.2.1) (sndGs g hs ts es h.2.2)
    · cases h
end
theorem sW_walk (g : Gd X C G A) (hs : ScR X sc) {M : List Nat} {x : E} {a : Expr} (h : walkB C sc M x a = true) : PE X a (tEw G A M x) := by
  unfold walkB at h
  split at h
  · rename_i i n p
    rw [Bool.and_eq_true] at h
    obtain ⟨h1, h2, h3, h4⟩ := g.slot hs h.1
    exact sEw_v g.hks h.2 h1 h2 h3 h4
  · cases h
/-- and, or as they stand with what is to be looked at first -/
theorem sT_cin {a : Expr} {x : E} {pos : Pos} {op : CmpOp} {i : Nat} {n : Str} {p1 : Pos} (hK : X.K = A.K) (hu : X.A.units + 102 < cLine) (hN : X.N[i]? = some n) (hv : Vis X.env.scope n) (hd : (n == ("__debug__" : Str)) = false) (hcd : (n == ("__classdict__" : Str)) = false)
    (ha : PE X a (tE (C := C) G A x)) : PT X (.Compare a [op] [.Name n p1] pos) (tT G A (.cin op x i)) := by
  refine (pt_cmpR (opr_cmp hu op) ha (pe_var hN hv hd hcd) (marks_of (e := .Name n p1) rfl)).weak fun σ H Q ⟨S, e, r, e', R, h, P⟩ => ?_
  have h' : bnd (denE G x e) (fun d e1 => bnd (pr ((getV e1 i).bind fun y => cmpD op d y) e1) fun w e3 => pr (blD w) e3) = some (r, e') := by
    have : tst (denE G (.cin op x i) e) = some (r, e') := h
    unfold tst at this
    rw [← this]
    simp only [denE]
    cases denE G x e with
    | none => rfl
    | some o =>
      obtain ⟨o, e1⟩ := o
      cases o <;> rfl
  refine tE_then (C := C) R h' P.err fun d2 e1 v2 H1 h1 k1 R1 v1 => ?_
  cases hg : getV e1 i with
  | none => rw [hg] at h1; cases h1
  | some d1 =>
  rw [hg] at h1
  cases q : cmpD op d2 d1 with
  | none => simp only [Option.bind_some, q] at h1; cases h1
  | some w =>
    simp only [Option.bind_some, q, pr_some, bnd_ok] at h1
    obtain ⟨k, rfl⟩ := cmpD_bl q
    cases h1
    obtain ⟨v0, hs, _⟩ := R1.getV hg
    rw [hK]
    refine ⟨v0, hs, fun _ => False, S, d2, d1, _, (v1.vw R.celD).less fun _ z => (z : False).elim, R1.look' hs hg, q, fun v rp => ?_⟩
    cases rp
    exact ⟨k, rfl, (P.shift k1) _ H1 (Kp.refl _ _) R1 rfl⟩
theorem pw_bool {op : BoolOp} {es : List Expr} {p : Pos} {t : TT} (h : PT X (.BoolOp op es p) t) : PW X (.BoolOp op es p) t := ⟨fun _ => h.run⟩
theorem ownN_ix {C : Cfg} {own : List Nat} : (ownN C own).map (·.2) = own := by
  unfold ownN
  rw [List.map_map]
  exact List.map_id' own
end
section
variable {C : Cfg} {G : Gam}
/-- a comprehension's parts -/
structure CompOk (X : Cx) (C : Cfg) (G : Gam) (A : Ac) (elt : E) (tg : Tg) (it : It) (cs : Es) (own : List (Str × Nat)) (eltx tgx iter : Expr) (ifs : List Expr) (scope : Scope) : Prop where
  hi : PI X tgx iter (tI G A [] it)
  ok : BlkOk X.N X.env.scope scope own
  hv : ∀ i ∈ own.map (·.2), A.ks[i]? = some .val
  ht : ∀ i ∈ tgS tg, i ∈ own.map (·.2)
  hk : kdE C elt = .fr ∨ kdE C elt = .vl
  hg : ∀ (s : Shared) (H : Hp) (D : Addr) (cl : List (Str × Addr)) (fp : List Addr), PG (X.blk s H scope (compEnvC scope cl D X.env) fp) tgx (tG G A.blk tg)
  hts : ∀ (s : Shared) (H : Hp) (D : Addr) (cl : List (Str × Addr)) (fp : List Addr), PTs (X.blk s H scope (compEnvC scope cl D X.env) fp) ifs (tC G A.blk cs)
  he : ∀ (s : Shared) (H : Hp) (D : Addr) (cl : List (Str × Addr)) (fp : List Addr), PE (X.blk s H scope (compEnvC scope cl D X.env) fp) eltx (tE (C := C) G A.blk elt)
  hs : notSetD iter = true
mutual
theorem sndE : ∀ (x : E) (C : Cfg) (X : Cx) (A : Ac) (sc : Scope) (a : Expr), Gd X C G A → ScR X sc → chkE C sc x a = true → PE X a (tE (C := C) G A x)
  | .c d, C, X, A, sc, a, g, hs, h => by
    unfold chkE at h
    split at h
    · exact sE_c h
    · cases h
  | .v i, C, X, A, sc, a, g, hs, h => by
    unfold chkE at h
    split at h
    · rw [Bool.and_eq_true, decide_eq_true_eq] at h
      obtain ⟨h1, h2, h3, h4⟩ := g.slot hs h.1
      exact sE_v g.hks h.2 h1 h2 h3 h4
    · cases h
  | .g j, C, X, A, sc, a, g, hs, h => by
    unfold chkE at h
    split at h
    · rw [Bool.and_eq_true, decide_eq_true_eq] at h
      obtain ⟨h1, h2⟩ := gl_of hs h.2
      exact sE_g h1 (fun d hd => g.gcs j _ d h.1 hd) h2
    · cases h
  | .tup es, C, X, A, sc, a, g, hs, h => by
    unfold chkE at h
    split at h
    · rw [Bool.and_eq_true, Bool.and_eq_true, decide_eq_true_eq] at h
      exact sE_tup h.1 h.2.1 (sndEs es _ X A sc _ g hs h.2.2)
    · cases h
  | .lst es, C, X, A, sc, a, g, hs, h => by
    unfold chkE at h
    split at h
    · rw [Bool.and_eq_true, Bool.and_eq_true, decide_eq_true_eq] at h
      exact sE_lst h.1 h.2.1 (sndEs es _ X A sc _ g hs h.2.2)
    · cases h
  | .dic, C, X, A, sc, a, g, hs, h => by
    unfold chkE at h
    split at h
    · exact sE_dic
    · cases h
  | .bin op x y, C, X, A, sc, a, g, hs, h => by
    unfold chkE at h
    split at h
    · rw [Bool.and_eq_true, Bool.and_eq_true, decide_eq_true_eq] at h
      obtain ⟨rfl, h1, h2⟩ := h
      exact sE_bin g.hK (sndE x _ X A sc _ g hs h1) (sndE y _ X A sc _ g hs h2)
    · cases h
  | .neg x, C, X, A, sc, a, g, hs, h => by
    unfold chkE at h
    split at h
    · exact sE_neg (sndE x _ X A sc _ g hs h)
    · cases h
  | .cmp op x y, C, X, A, sc, a, g, hs, h => by
    unfold chkE at h
    split at h
    · rw [Bool.and_eq_true, Bool.and_eq_true, Bool.and_eq_true, decide_eq_true_eq] at h
      obtain ⟨rfl, h1, h2, h3⟩ := h
      exact sE_cmp g.hK g.hu h1 (sndE x _ X A sc _ g hs h2) (sndE y _ X A sc _ g hs h3)
    · cases h
  | .chn o1 o2 x y z, C, X, A, sc, a, g, hs, h => by
    unfold chkE at h
    split at h
    · rw [Bool.and_eq_true, Bool.and_eq_true, Bool.and_eq_true, Bool.and_eq_true, decide_eq_true_eq] at h
      obtain ⟨⟨rfl, rfl⟩, h1, h2, h3, h4⟩ := h
      exact sE_chn g.hK g.hu h1 (sndE x _ X A sc _ g hs h2) (sndE y _ X A sc _ g hs h3) (sndE z _ X A sc _ g hs h4)
    · cases h
  | .chn3 o1 o2 o3 x y z w, C, X, A, sc, a, g, hs, h => by
    unfold chkE at h
    split at h
    · rw [Bool.and_eq_true, Bool.and_eq_true, Bool.and_eq_true, Bool.and_eq_true, Bool.and_eq_true, decide_eq_true_eq] at h
      obtain ⟨⟨rfl, rfl, rfl⟩, h1, h2, h3, h4, h5⟩ := h
      exact sE_chn3 g.hK g.hu h1 (sndE x _ X A sc _ g hs h2) (sndE y _ X A sc _ g hs h3) (sndE z _ X A sc _ g hs h4) (sndE w _ X A sc _ g hs h5)
    · cases h
  | .and x y, C, X, A, sc, a, g, hs, h => by
    unfold chkE at h
    split at h
    · rw [Bool.and_eq_true] at h
      exact sE_and (sndE x _ X A sc _ g hs h.1) (pe_one (sndE y _ X A sc _ g hs h.2))
    · rw [Bool.and_eq_true] at h
      exact sE_and (sndE x _ X A sc _ g hs h.1) (sndE y _ X A sc _ g hs h.2)
    · cases h
  | .or x y, C, X, A, sc, a, g, hs, h => by
    unfold chkE at h
    split at h
    · rw [Bool.and_eq_true] at h
      exact sE_or (sndE x _ X A sc _ g hs h.1) (pe_one (sndE y _ X A sc _ g hs h.2))
    · rw [Bool.and_eq_true] at h
      exact sE_or (sndE x _ X A sc _ g hs h.1) (sndE y _ X A sc _ g hs h.2)
    · cases h
  | .not x, C, X, A, sc, a, g, hs, h => by
    unfold chkE at h
    split at h
    · exact sE_not (sndE x _ X A sc _ g hs h)
    · cases h
  | .ite z x y, C, X, A, sc, a, g, hs, h => by
    unfold chkE at h
    split at h
    · rw [Bool.and_eq_true, Bool.and_eq_true] at h
      exact sE_ite (sndT z _ X A sc _ g hs h.1) (sndE x _ X A sc _ g hs h.2.1) (sndE y _ X A sc _ g hs h.2.2)
    · cases h
  | .ix x y, C, X, A, sc, a, g, hs, h => by
    unfold chkE at h
    split at h
    · rw [Bool.and_eq_true, Bool.and_eq_true] at h
      exact sE_ix g.hK g.hu h.1 (sndE x _ X A sc _ g hs h.2.1) (sndE y _ X A sc _ g hs h.2.2)
    · cases h
  | .cix i y, C, X, A, sc, a, g, hs, h => by
    unfold chkE at h
    split at h
    · rw [Bool.and_eq_true, Bool.and_eq_true] at h
      obtain ⟨h1, h2, h3, h4⟩ := g.slot hs h.2.1
      exact sE_cix g.hK g.hu h1 h2 h3 h4 h.1 (sndE y _ X A sc _ g hs h.2.2)
    · cases h
  | .cin op x i, C, X, A, sc, a, g, hs, h => by
    unfold chkE at h
    split at h
    · rw [Bool.and_eq_true, Bool.and_eq_true, decide_eq_true_eq] at h
      obtain ⟨rfl, h1, h2⟩ := h
      obtain ⟨s1, s2, s3, s4⟩ := g.slot hs h1
      exact sE_cin g.hK g.hu s1 s2 s3 s4 (sndE x _ X A sc _ g hs h2)
    · cases h
  | .sl x lo hi, C, X, A, sc, a, g, hs, h => by
    unfold chkE at h
    split at h
    · rw [Bool.and_eq_true, Bool.and_eq_true] at h
      exact sE_sl g.hK (sndE x _ X A sc _ g hs h.1) (sndO lo _ X A sc _ g hs h.2.1) (sndO hi _ X A sc _ g hs h.2.2)
    · cases h
  | .rev x, C, X, A, sc, a, g, hs, h => by cases h
  | .bi b es, C, X, A, sc, a, g, hs, h => by
    unfold chkE at h
    split at h
    · rw [Bool.and_eq_true, Bool.and_eq_true, Bool.and_eq_true, Bool.and_eq_true] at h
      obtain ⟨h1, h2, h3, h4, h5⟩ := h
      obtain ⟨b1, b2, b3⟩ := g.blt hs h1
      exact sE_bi g.hK g.calm b1 b2 b3 h2 h3 h4 (sndEs es _ X A sc _ g hs h5)
    · cases h
  | .isi x t, C, X, A, sc, a, g, hs, h => by
    unfold chkE at h
    split at h
    · rw [Bool.and_eq_true, Bool.and_eq_true, Bool.and_eq_true] at h
      obtain ⟨h1, h2, h3, h4⟩ := h
      obtain ⟨b1, b2, b3⟩ := g.blt hs h1
      obtain ⟨c1, c2, c3⟩ := g.blt hs h2
      exact sE_isi g.hK b1 b2 b3 c1 c2 c3 h3 (sndE x _ X A sc _ g hs h4)
    · cases h
  | .lset x, C, X, A, sc, a, g, hs, h => by
    unfold chkE at h
    split at h
    · simp only [Bool.and_eq_true] at h
      obtain ⟨h1, h2, h3, h4⟩ := h
      obtain ⟨b1, b2, b3⟩ := g.blt hs h1
      obtain ⟨c1, c2, c3⟩ := g.blt hs h2
      exact sE_lset g.hK b1 c1 g.calm g.hu b2 b3 c2 c3 h3 (sndE x _ X A sc _ g hs h4)
    · cases h
  | .call j es cs, C, X, A, sc, a, g, hs, h => by
    unfold chkE at h
    split at h
    · rename_i n p as p2
      split at h
      · rename_i I hI
        rw [Bool.and_eq_true, Bool.and_eq_true, Bool.and_eq_true, Bool.and_eq_true, Bool.and_eq_true, decide_eq_true_eq, decide_eq_true_eq] at h
        obtain ⟨h1, h2, h3, h4, h5, h6⟩ := h
        obtain ⟨b1, b2⟩ := gl_of hs h2
        have ha := sndEs es _ X A sc as g hs h6
        cases as with
        | nil =>
          cases es with
          | nil =>
            cases cs with
            | nil => exact sE_call0 g.hK g.hks g.tk hI h1 (g.fns j I hI) b1 b2 h3
            | cons c cs => cases q : I.pk <;> (rw [q] at h3; first | cases h3 | (rename_i k pk; cases k <;> cases h3))
          | cons x r => unfold chkEs at h6; cases h6
          | cel i r => unfold chkEs at h6; cases h6
        | cons a as =>
          rw [List.all_cons, Bool.and_eq_true] at h5
          exact sE_call g.hK g.hks g.tk hI h1 (g.fns j I hI) b1 b2 h3 h4 h5.1 h5.2 ha
      · cases h
    · cases h
  | .comp elt tg it cs own, C, X, A, sc, a, g, hs, h => by
    unfold chkE at h
    split at h
    · rename_i eltx tgx iter ifs scope p
      simp only [Bool.and_eq_true] at h
      obtain ⟨h1, h2, h3, h4, h5, h6, h7, h8, h9⟩ := h
      have ok := hs.blkOk g.hN h2
      have r := sE_comp (own := ownN C own) (pos := p) g.calm g.nd (sndI it _ X A sc [] tgx iter g hs h9) ok (by rw [ownN_ix]; exact val_of g h3) (by rw [ownN_ix]; exact fun i hi => List.contains_iff_mem.mp (List.all_eq_true.mp h4 i hi)) (keep_of h5)
        (fun s H D cl fp => sndG (g.blk s H scope D cl fp) (ScR.blk s H scope D cl fp ok.kind) tg tgx h6)
        (fun s H D cl fp => sndC cs _ (X.blk s H scope (compEnvC scope cl D X.env) fp) A.blk scope ifs (g.blk s H scope D cl fp) (ScR.blk s H scope D cl fp ok.kind) h7)
        (fun s H D cl fp => sndE elt _ (X.blk s H scope (compEnvC scope cl D X.env) fp) A.blk scope eltx (g.blk s H scope D cl fp) (ScR.blk s H scope D cl fp ok.kind) h8) h1
      rw [ownN_ix] at r
      exact r
    · cases h
  | .lzip x y, C, X, A, sc, a, g, hs, h => by
    unfold chkE at h
    split at h
    · simp only [Bool.and_eq_true] at h
      obtain ⟨h1, h2, h3, h4, h5, h6⟩ := h
      obtain ⟨b1, b2, b3⟩ := g.blt hs h1
      obtain ⟨c1, c2, c3⟩ := g.blt hs h2
      exact sE_lzip g.hK b1 c1 g.calm b2 b3 c2 c3 h3 h4 (sndE x _ X A sc _ g hs h5) (sndE y _ X A sc _ g hs h6)
    · cases h
  | .tri x, C, X, A, sc, a, g, hs, h => by
    unfold chkE at h
    split at h
    · rename_i n p params body scope lp p2
      simp only [Bool.and_eq_true, decide_eq_true_eq] at h
      obtain ⟨h1, h2, h3, h4, h5, h6, h7⟩ := h
      have L := lamS_of hs h4
      exact sE_tri g.hK (g.tri h1) h2 (gl_of hs h3).1 L h5 (keep_of h6) fun k hf A₀ outer s H E f c' room =>
        sndE x C.noTri (lamN X A₀ outer s H E scope f c') (A.xw E) scope body (g.lam hf A₀ outer s H E f c' room) (ScR.lam L A₀ outer s H E f c') h7
    · cases h
  | .fn j m, C, X, A, sc, a, g, hs, h => by
    unfold chkE at h
    split at h
    · rename_i n p
      simp only [Bool.and_eq_true, decide_eq_true_eq] at h
      obtain ⟨h1, h2, h3⟩ := h
      obtain ⟨I, hI, hn⟩ := Option.map_eq_some_iff.mp h3
      obtain ⟨fa, fd, ps, k, ⟨hm, hga⟩, _⟩ := g.fns j I hI
      subst hn
      exact sE_fn g.hK (gl_of hs h2).1 h1 (by rw [hm, hga]) (gl_of hs h2).2
    · cases h
  | .lix es x, C, X, A, sc, a, g, hs, h => by
    unfold chkE at h
    split at h
    · rename_i as lp b pos
      simp only [Bool.and_eq_true, decide_eq_true_eq] at h
      obtain ⟨h1, h2, h3, h4, h5⟩ := h
      exact sE_lix g.hK h1 h2 h4 (sndEs es _ X A sc _ g hs h3) (sndE x _ X A sc _ g hs h5)
    · cases h
  | .callv i js es, C, X, A, sc, a, g, hs, h => by
    unfold chkE at h
    split at h
    · rename_i n p a as p2
      simp only [Bool.and_eq_true, decide_eq_true_eq] at h
      obtain ⟨h1, h2, h3, h4, h5, h6⟩ := h
      obtain ⟨s1, s2, s3, s4⟩ := g.slot hs h1
      refine sE_callv g.hK g.hks h2 g.tk (fun q hq => ?_) s1 s2 s3 s4 h4 h5 (sndEs es _ X A sc _ g hs h6)
      have h7 := List.all_eq_true.mp h3 q hq
      cases hI : C.fns[q.1]? with
      | none => rw [hI] at h7; cases h7
      | some I =>
        rw [hI] at h7
        simp only [Bool.and_eq_true, decide_eq_true_eq] at h7
        exact ⟨I, rfl, h7.1, h7.2, g.fns _ I hI⟩
    · cases h
theorem sndT : ∀ (x : E) (C : Cfg) (X : Cx) (A : Ac) (sc : Scope) (a : Expr), Gd X C G A → ScR X sc → chkT C sc x a = true → PT X a (tT G A x)
  | .cmp op x y, C, X, A, sc, a, g, hs, h => by
    unfold chkT at h
    split at h
    · rw [Bool.and_eq_true, Bool.and_eq_true, Bool.and_eq_true, decide_eq_true_eq] at h
      obtain ⟨rfl, h1, h2, h3⟩ := h
      exact sT_cmp g.hK g.hu h1 (sndE x _ X A sc _ g hs h2) (sndE y _ X A sc _ g hs h3)
    · cases h
  | .chn o1 o2 x y z, C, X, A, sc, a, g, hs, h => by
    unfold chkT at h
    split at h
    · rw [Bool.and_eq_true, Bool.and_eq_true, Bool.and_eq_true, Bool.and_eq_true, decide_eq_true_eq] at h
      obtain ⟨⟨rfl, rfl⟩, h1, h2, h3, h4⟩ := h
      exact sT_chn g.hK g.hu h1 (sndE x _ X A sc _ g hs h2) (sndE y _ X A sc _ g hs h3) (sndE z _ X A sc _ g hs h4)
    · cases h
  | .chn3 o1 o2 o3 x y z w, C, X, A, sc, a, g, hs, h => by
    unfold chkT at h
    split at h
    · rw [Bool.and_eq_true, Bool.and_eq_true, Bool.and_eq_true, Bool.and_eq_true, Bool.and_eq_true, decide_eq_true_eq] at h
      obtain ⟨⟨rfl, rfl, rfl⟩, h1, h2, h3, h4, h5⟩ := h
      exact sT_chn3 g.hK g.hu h1 (sndE x _ X A sc _ g hs h2) (sndE y _ X A sc _ g hs h3) (sndE z _ X A sc _ g hs h4) (sndE w _ X A sc _ g hs h5)
    · cases h
  | .cin op x i, C, X, A, sc, a, g, hs, h => by
    unfold chkT at h
    split at h
    · rw [Bool.and_eq_true, Bool.and_eq_true, decide_eq_true_eq] at h
      obtain ⟨rfl, h1, h2⟩ := h
      obtain ⟨s1, s2, s3, s4⟩ := g.slot hs h1
      exact sT_cin g.hK g.hu s1 s2 s3 s4 (sndE x _ X A sc _ g hs h2)
    · cases h
  | .and x y, C, X, A, sc, a, g, hs, h => by
    unfold chkT at h
    split at h
    · rw [Bool.and_eq_true] at h
      exact (sW_and (sndT x _ X A sc _ g hs h.1) (pw_and1 (sndT y _ X A sc _ g hs h.2))).pt
    · rw [Bool.and_eq_true] at h
      exact (sW_and (sndT x _ X A sc _ g hs h.1) (pw_bool (sndT y _ X A sc _ g hs h.2))).pt
    · cases h
  | .or x y, C, X, A, sc, a, g, hs, h => by
    unfold chkT at h
    split at h
    · rw [Bool.and_eq_true] at h
      exact (sW_or (sndT x _ X A sc _ g hs h.1) (pw_or1 (sndT y _ X A sc _ g hs h.2))).pt
    · rw [Bool.and_eq_true] at h
      exact (sW_or (sndT x _ X A sc _ g hs h.1) (pw_bool (sndT y _ X A sc _ g hs h.2))).pt
    · cases h
  | .not x, C, X, A, sc, a, g, hs, h => by
    unfold chkT at h
    split at h
    · exact sT_not (sndT x _ X A sc _ g hs h)
    · cases h
  | .c d, C, X, A, sc, a, g, hs, h => by
    unfold chkT at h
    split at h
    · exact sT_val (C := C) (fun _ => rfl) (sE_c h)
    · cases h
  | .v i, C, X, A, sc, a, g, hs, h => by
    unfold chkT at h
    split at h
    · rw [Bool.and_eq_true, decide_eq_true_eq] at h
      obtain ⟨h1, h2, h3, h4⟩ := g.slot hs h.1
      exact sT_val (C := C) (fun _ => rfl) (sE_v g.hks h.2 h1 h2 h3 h4)
    · cases h
  | .bi b es, C, X, A, sc, a, g, hs, h => by
    unfold chkT at h
    split at h
    · rw [Bool.and_eq_true, Bool.and_eq_true, Bool.and_eq_true, Bool.and_eq_true] at h
      obtain ⟨h1, h2, h3, h4, h5⟩ := h
      obtain ⟨b1, b2, b3⟩ := g.blt hs h1
      exact sT_val (fun _ => rfl) (sE_bi g.hK g.calm b1 b2 b3 h2 h3 h4 (sndEs es _ X A sc _ g hs h5))
    · cases h
  | .isi x t, C, X, A, sc, a, g, hs, h => by
    unfold chkT at h
    split at h
    · rw [Bool.and_eq_true, Bool.and_eq_true, Bool.and_eq_true] at h
      obtain ⟨h1, h2, h3, h4⟩ := h
      obtain ⟨b1, b2, b3⟩ := g.blt hs h1
      obtain ⟨c1, c2, c3⟩ := g.blt hs h2
      exact sT_val (C := C) (fun _ => rfl) (sE_isi g.hK b1 b2 b3 c1 c2 c3 h3 (sndE x _ X A sc _ g hs h4))
    · cases h
  | .call j es cs, C, X, A, sc, a, g, hs, h => by
    unfold chkT at h
    split at h
    · rename_i n p as p2
      split at h
      · rename_i I hI
        rw [Bool.and_eq_true, Bool.and_eq_true, Bool.and_eq_true, Bool.and_eq_true, Bool.and_eq_true, decide_eq_true_eq, decide_eq_true_eq] at h
        obtain ⟨h1, h2, h3, h4, h5, h6⟩ := h
        obtain ⟨b1, b2⟩ := gl_of hs h2
        have ha := sndEs es _ X A sc as g hs h6
        refine sT_val (C := C) (fun _ => rfl) ?_
        cases as with
        | nil =>
          cases es with
          | nil =>
            cases cs with
            | nil => exact sE_call0 g.hK g.hks g.tk hI h1 (g.fns j I hI) b1 b2 h3
            | cons c cs => cases q : I.pk <;> (rw [q] at h3; first | cases h3 | (rename_i k pk; cases k <;> cases h3))
          | cons x r => unfold chkEs at h6; cases h6
          | cel i r => unfold chkEs at h6; cases h6
        | cons a as =>
          rw [List.all_cons, Bool.and_eq_true] at h5
          exact sE_call g.hK g.hks g.tk hI h1 (g.fns j I hI) b1 b2 h3 h4 h5.1 h5.2 ha
      · cases h
    · cases h
  | .g j, C, X, A, sc, a, g, hs, h => by cases h
  | .tup es, C, X, A, sc, a, g, hs, h => by cases h
  | .lst es, C, X, A, sc, a, g, hs, h => by cases h
  | .dic, C, X, A, sc, a, g, hs, h => by cases h
  | .bin op x y, C, X, A, sc, a, g, hs, h => by cases h
  | .neg x, C, X, A, sc, a, g, hs, h => by cases h
  | .ite z x y, C, X, A, sc, a, g, hs, h => by cases h
  | .ix x y, C, X, A, sc, a, g, hs, h => by cases h
  | .cix i y, C, X, A, sc, a, g, hs, h => by cases h
  | .sl x lo hi, C, X, A, sc, a, g, hs, h => by cases h
  | .rev x, C, X, A, sc, a, g, hs, h => by cases h
  | .lset x, C, X, A, sc, a, g, hs, h => by cases h
  | .comp elt tg it cs own, C, X, A, sc, a, g, hs, h => by cases h
  | .lzip x y, C, X, A, sc, a, g, hs, h => by cases h
  | .tri x, C, X, A, sc, a, g, hs, h => by cases h
  | .fn j m, C, X, A, sc, a, g, hs, h => by cases h
  | .callv i js es, C, X, A, sc, a, g, hs, h => by cases h
  | .lix es x, C, X, A, sc, a, g, hs, h => by cases h
theorem sndEs : ∀ (es : Es) (C : Cfg) (X : Cx) (A : Ac) (sc : Scope) (as : List Expr), Gd X C G A → ScR X sc → chkEs C sc es as = true → PA X as (tA C G A es)
  | .nil, C, X, A, sc, as, g, hs, h => by
    unfold chkEs at h
    split at h
    · exact sA_nil
    · cases h
  | .cons x r, C, X, A, sc, as, g, hs, h => by
    unfold chkEs at h
    split at h
    · rw [Bool.and_eq_true, Bool.and_eq_true] at h
      exact sA_cons h.1 (sndE x _ X A sc _ g hs h.2.1) (sndEs r _ X A sc _ g hs h.2.2)
    · cases h
  | .cel i r, C, X, A, sc, as, g, hs, h => by
    unfold chkEs at h
    split at h
    · rw [Bool.and_eq_true, Bool.and_eq_true, decide_eq_true_eq] at h
      obtain ⟨h1, h2, h3, h4⟩ := g.slot hs h.1
      exact sA_cel (by rw [g.hks]; exact h.2.1) h1 h2 h3 h4 (sndEs r _ X A sc _ g hs h.2.2)
    · cases h
theorem sndO : ∀ (o : Eo) (C : Cfg) (X : Cx) (A : Ac) (sc : Scope) (a : Option Expr), Gd X C G A → ScR X sc → chkO C sc o a = true → PO X a (tO C G A o)
  | .no, C, X, A, sc, a, g, hs, h => by
    unfold chkO at h
    split at h
    · exact sO_no
    · cases h
  | .so x, C, X, A, sc, a, g, hs, h => by
    unfold chkO at h
    split at h
    · exact sO_so (sndE x _ X A sc _ g hs h)
    · cases h
theorem sndC : ∀ (cs : Es) (C : Cfg) (X : Cx) (A : Ac) (sc : Scope) (as : List Expr), Gd X C G A → ScR X sc → chkC C sc cs as = true → PTs X as (tC G A cs)
  | .nil, C, X, A, sc, as, g, hs, h => by
    unfold chkC at h
    split at h
    · exact sC_nil
    · cases h
  | .cons x r, C, X, A, sc, as, g, hs, h => by
    unfold chkC at h
    split at h
    · exact sC_one (sndT x _ X A sc _ g hs h)
    · cases h
  | .cel i r, C, X, A, sc, as, g, hs, h => by cases h
theorem sndI : ∀ (it : It) (C : Cfg) (X : Cx) (A : Ac) (sc : Scope) (M : List Nat) (t a : Expr), Gd X C G A → ScR X sc → chkI C sc M it t a = true → PI X t a (tI G A M it)
  | .sq x, C, X, A, sc, M, t, a, g, hs, h => by
    unfold chkI at h
    rw [Bool.or_eq_true, Bool.and_eq_true, decide_eq_true_eq] at h
    exact sI_sq g.hK (h.elim (sW_walk g hs) fun z => sEw_of z.1 (sndE x _ X A sc a g hs z.2))
  | .en x, C, X, A, sc, M, t, a, g, hs, h => by
    unfold chkI at h
    split at h
    · rw [Bool.and_eq_true, Bool.and_eq_true, Bool.or_eq_true, Bool.and_eq_true, decide_eq_true_eq] at h
      obtain ⟨h1, h2, h3⟩ := h
      obtain ⟨b1, b2, b3⟩ := g.blt hs h1
      exact sI_en b1 g.hK b2 b3 h2 (h3.elim (sW_walk g hs) fun z => sEw_of z.1 (sndE x _ X A sc _ g hs z.2))
    · cases h
  | .zp x y, C, X, A, sc, M, t, a, g, hs, h => by
    unfold chkI at h
    split at h
    · rw [Bool.and_eq_true, Bool.and_eq_true, Bool.and_eq_true, Bool.and_eq_true, Bool.or_eq_true, Bool.and_eq_true, decide_eq_true_eq, Bool.or_eq_true, Bool.and_eq_true, decide_eq_true_eq] at h
      obtain ⟨h1, h2, h3, h4, h5⟩ := h
      obtain ⟨b1, b2, b3⟩ := g.blt hs h1
      exact sI_zp b1 g.hK b2 b3 h2 h3 (h4.elim (sW_walk g hs) fun z => sEw_of z.1 (sndE x _ X A sc _ g hs z.2)) (h5.elim (sW_walk g hs) fun z => sEw_of z.1 (sndE y _ X A sc _ g hs z.2))
    · cases h
  | .r1 x, C, X, A, sc, M, t, a, g, hs, h => by
    unfold chkI at h
    split at h
    · rw [Bool.and_eq_true, Bool.and_eq_true, Bool.and_eq_true, decide_eq_true_eq] at h
      obtain ⟨h1, h2, h3, h4⟩ := h
      obtain ⟨b1, b2, b3⟩ := g.blt hs h1
      exact sI_r1 b1 b2 b3 h2 (sEw_of h3 (sndE x _ X A sc _ g hs h4))
    · cases h
  | .r2 x y, C, X, A, sc, M, t, a, g, hs, h => by
    unfold chkI at h
    split at h
    · rw [Bool.and_eq_true, Bool.and_eq_true, Bool.and_eq_true, Bool.and_eq_true, Bool.and_eq_true, Bool.and_eq_true, decide_eq_true_eq, decide_eq_true_eq] at h
      obtain ⟨h1, h2, h3, h4, h5, h6, h7⟩ := h
      obtain ⟨b1, b2, b3⟩ := g.blt hs h1
      exact sI_r2 b1 b2 b3 h2 h3 (sEw_of h4 (sndE x _ X A sc _ g hs h5)) (sEw_of h6 (sndE y _ X A sc _ g hs h7))
    · cases h
end
end
end Rf

set_option maxRecDepth 100000
set_option maxHeartbeats 2000000
/-! Rf22: statements that pass the check. -/
namespace Rf
open PySem PySem.Spec PyProof.Rows L2
variable [TN]

/-- the compiler stores a comprehension's list itself -/
def swB (sc : Scope) (a : Expr) (n : Str) (p : Pos) : Bool := match a with
  | .ListComp _ _ s cp => decide (sc.names.lookup n = some .local) && (p.line == cp.line && !(s.names.any fun (m, k) => m == n && (k == .local || k == .cell)))
  | .SetComp _ _ _ _ => true
  | .DictComp _ _ _ _ _ => true
  | _ => false
def swSole (ts : List Expr) (a : Expr) : Bool := match a with
  | .ListComp _ _ _ _ => false
  | .SetComp _ _ _ _ => false
  | .DictComp _ _ _ _ _ => false
  | _ => true
/-- no pair on the right, or no tuple on the left -/
def swNone (t : Expr) (a : Expr) : Bool := match t, a with
  | .Tuple _ _ _, .Tuple _ _ _ => false
  | .List _ _, .Tuple _ _ _ => false
  | _, _ => true
def nameOf : Expr → Option (Str × Pos)
  | .Name n p => some (n, p)
  | _ => none
/-- the names of the left side that are plain locals on the first one's line -/
def swNames (sc : Scope) (ts : List Expr) : List Str := ts.filterMap fun
    | .Name id pos => if (decide (sc.names.lookup id = some .local) && pos.line == (ts.head?.map (·.pos.line)).getD 0) = true then some id else none
    | _ => none
/-- the names of a pair are stored in another order -/
def swPair (sc : Scope) (ts vs : List Expr) : Option Bool :=
  if (!(ts.length == 2 || ts.length == 3) || vs.length != ts.length) = true then some false else
  if (vs.any fun | .Starred .. => true | _ => false) = true then some false else
  if ((swNames sc ts).length != ts.length || (swNames sc ts).eraseDups.length != (swNames sc ts).length) = true then some false else
  if (vs.all (foldedForSure 8)) = true then some false else
  if (vs.all (constantsAlone 8)) = true then none else some true
def chkPar (C : Cfg) (sc : Scope) : Par → List Expr → Bool
  | [], a => (match a with
    | [] => true
    | _ => false)
  | (_, false, x) :: r, a => (match a with
    | e :: es => notStar e && (keepK C x && (chkE C sc x e && chkPar C sc r es))
    | _ => false)
  | (_, true, x) :: r, a => (match a with
    | e :: es => notStar e && ((decide (kdE (C.pv []) x = .fr) || decide (kdE (C.pv []) x = .fo)) && (chkE (C.pv []) sc x e && chkPar C sc r es))
    | _ => false)
def chkNs (C : Cfg) (sc : Scope) : Par → List Expr → Bool
  | [], a => (match a with
    | [] => true
    | _ => false)
  | (i, o, _) :: r, a => (match a with
    | .Name n _ :: es => decide (C.N[i]? = some n) && (locB sc n && ((if o = true then (decide (C.ks[i]? = some .own) || decide (C.ks[i]? = some .cel)) && !(C.pcl.contains i) else decide (C.ks[i]? = some .val)) && chkNs C sc r es))
    | _ => false)
def ownB (C : Cfg) (i : Nat) : Bool := decide (C.ks[i]? = some .own) || decide (C.ks[i]? = some .cel)
def isComp : E → Bool
  | .comp _ _ _ _ _ => true
  | _ => false
mutual
def chkS (C : Cfg) (sc : Scope) : Sm → Stmt → Bool
  | .set i x, a => (match a with
    | .Assign [.Name n p] e _ => decide (C.N[i]? = some n) && (locB sc n && (decide (C.ks[i]? = some .val) && (keepK C x && (chkE C sc x e && (!(swB sc e n p) || isComp x)))))
    | _ => false)
  | .setO i x, a => (match a with
    | .Assign [.Name n p] e _ => decide (C.N[i]? = some n) && (locB sc n && (ownB C i && (!(C.pcl.contains i) && ((decide (kdE (C.pv []) x = .fr) || decide (kdE (C.pv []) x = .fo)) && (chkE (C.pv []) sc x e && !(swB sc e n p))))))
    | _ => false)
  | .setC i x, a => (match a with
    | .Assign [.Name n p] e _ => decide (C.N[i]? = some n) && (locB sc n && (ownB C i && (!(C.pcl.contains i) && (isComp x && chkE C sc x e))))
    | _ => false)
  | .par ps, a => (match a with
    | .Assign [.Tuple ts _ _] (.Tuple es _ _) _ => decide (ts.length = ps.length ∧ ps.length ≤ 1000) && (chkNs C sc ps ts && (chkPar C sc ps es && (match swPair sc ts es with
      | some false => true
      | some true => decide (ps.map (·.1)).Nodup
      | none => false)))
    | _ => false)
  | .unp t x, a => (match a with
    | .Assign [tg] e _ => valS C (tgS t) && (keepK C x && (swSole [tg] e && (swNone tg e && (notStar tg && (chkG C sc t tg && chkE C sc x e)))))
    | _ => false)
  | .aug i op x, a => (match a with
    | .AugAssign (.Name n _) op' e _ => decide (op = op' ∧ (op = .Add ∨ op = .Sub)) && (decide (C.N[i]? = some n) && (locB sc n && (decide (C.ks[i]? = some .val) && chkE C sc x e)))
    | _ => false)
  | .ext i x, a => (match a with
    | .AugAssign (.Name n _) .Add e _ => decide (C.N[i]? = some n) && (locB sc n && (ownB C i && (decide (kdE C x = .fr) && chkE C sc x e)))
    | _ => false)
  | .app i x, a => (match a with
    | .Expr (.Call (.Attribute (.Name n _) m ap) [e] [] cp) _ => decide (m = "append") && ((ap.endLine == cp.line) && (slotB C sc i n && (ownB C i && (keepK C x && (notStar e && chkE C sc x e)))))
    | _ => false)
  | .appX x d, a => (match a with
    | .Expr (.Call (.Attribute (.Call (.Name n q) (a0 :: as) kws q2) m ap) [.Constant k _ _] [] cp) _ => decide (m = "append") && ((ap.endLine == cp.line) && (decide (kdE (C.pv []) x = .fr) && (litC k d && chkE (C.pv []) sc x (.Call (.Name n q) (a0 :: as) kws q2))))
    | _ => false)
  | .ins i x y, a => (match a with
    | .Expr (.Call (.Attribute (.Name n _) m ap) [e, f] [] cp) _ => decide (m = "insert") && ((ap.endLine == cp.line) && (slotB C sc i n && (ownB C i && (keepK C y && (notStar e && (notStar f && (chkE C sc x e && chkE C sc y f)))))))
    | _ => false)
  | .rem i x, a => (match a with
    | .Expr (.Call (.Attribute (.Name n _) m ap) [e] [] cp) _ => decide (m = "remove") && ((ap.endLine == cp.line) && (slotB C sc i n && (ownB C i && (notStar e && chkE C sc x e))))
    | _ => false)
  | .stx i k x, a => (match a with
    | .Assign [.Subscript (.Name n _) b _] e _ => slotB C sc i n && (ownB C i && (keepK C x && (notSlice b && (swSole [] e && (chkE C sc x e && chkE C sc k b)))))
    | _ => false)
  | .ex x, a => (match a with
    | .Expr e _ => swSole [] e && chkE C sc x e
    | _ => false)
  | .ifs x p q, a => (match a with
    | .If c a b _ => chkT C sc x c && (chkSs C sc p a && chkSs C sc q b)
    | _ => false)
  | .ifz Z x p q, a => (match a with
    | .If c a b _ => chkT (C.pv Z) sc x c && (chkSs C sc p a && chkSs C sc q b)
    | _ => false)
  | .fr t it b, a => (match a with
    | .For tg iter body [] _ => valS C (tgS t) && (notSetD iter && (chkG C sc t tg && (chkI C sc (mutSs b) it tg iter && chkSs C sc b body)))
    | _ => false)
  | .wh x b, a => (match a with
    | .While c body [] _ => chkT C sc x c && chkSs C sc b body
    | _ => false)
  | .ret Z x, a => (match a with
    | .Return (some e) _ => (if C.ret = true then decide (kdE (C.fz Z) x = .fr) else (decide (kdE (C.fz Z) x = .fr) || decide (kdE (C.fz Z) x = .vl))) && chkE (C.fz Z) sc x e
    | _ => false)
  | .retN, a => (match a with
    | .Return none _ => true
    | _ => false)
  | .retO i, a => (match a with
    | .Return (some (.Name n _)) _ => slotB C sc i n && decide (C.ks[i]? = some .own)
    | _ => false)
  | .rse j, a => (match a with
    | .Raise (some (.Call (.Name n _) [.Constant (.str _) _ _] [] _)) none _ => decide (C.exs[j]? = some n) && glB sc n
    | _ => false)
  | .rsf _ _, _ => false
  | .dpx _ _ _ _ _ _, _ => false
  | .dpn _ _ _ _ _ _, _ => false
  | .bad, _ => true
  | .brk, a => (match a with
    | .Break _ => true
    | _ => false)
  | .cnt, a => (match a with
    | .Continue _ => true
    | _ => false)
  | .pass, a => (match a with
    | .Pass _ => true
    | _ => false)
/-- three statements at once: what is left behind them -/
def chkDp (C : Cfg) (sc : Scope) : Sm → List Stmt → Option (List Stmt)
  | .dpx i j es Z c p, a => (match a with
    | .Assign [.Name n p1] (.List as lp) _ :: .If cx ab [] _ :: .For (.Name m _) (.Name n2 _) [.Expr (.Call (.Attribute (.Name m2 _) ap apos) [.Constant .none _ _] [] cpos) _] [] _ :: rest =>
      if (decide (n2 = n ∧ m2 = m ∧ ap = "append" ∧ i ≠ j ∧ C.ks[i]? = some .val ∧ C.ks[j]? = some .val ∧ lenEs es ≤ 1000) && (allFr (C.pv []) es && (chkEs (C.pv []) sc es as && (chkT (C.pv Z) sc c cx && (chkSs C sc p ab && ((apos.endLine == cpos.line) && (slotB C sc i n && (slotB C sc j m && (locB sc n && (locB sc m && !(swB sc (.List as lp) n p1))))))))))) = true then some rest else none
    | _ => none)
  | .dpn i es ms Z c p, a => (match a with
    | .Assign [.Name n p1] (.List as lp) _ :: .If cx ab [] _ :: sts =>
      if (decide (C.ks[i]? = some .val ∧ lenEs es ≤ 1000) && (ms.all (frAt (C.pv []) es) && (keepEs (C.pv []) es && (chkEs (C.pv []) sc es as && (chkT (C.pv Z) sc c cx && (chkSs C sc p ab && (slotB C sc i n && (locB sc n && !(swB sc (.List as lp) n p1))))))))) = true then chkAp n ms sts else none
    | _ => none)
  | _, _ => none
def chkSs (C : Cfg) (sc : Scope) : List Sm → List Stmt → Bool
  | [], a => (match a with
    | [] => true
    | _ => false)
  | s :: ss, a => (match chkDp C sc s a with
    | some rest => chkSs C sc ss rest
    | none => (match a with
      | st :: sts => chkS C sc s st && chkSs C sc ss sts
      | _ => false))
end

section
variable {X : Cx} {C : Cfg} {G : Gam} {A : Ac} {sc : Scope}
/-- what is known around a def's body -/
structure GdS (X : Cx) (C : Cfg) (G : Gam) (A : Ac) (sc : Scope) : Prop extends Gd X C G A where
  sceq : X.env.scope = sc
  kind : sc.kind = .function
  fna : ∀ n, X.fn n = true
  po : PassesOwn (model X.prog X.w) X.A X.env X.xe
  pc : ∀ q ∈ A.pcs, q.1 ∈ C.pcl
  exs : ∀ (j : Nat) n (m : Str) (k : Nat) (p p2 pos : Pos), C.exs[j]? = some n → Gl X n → L2N.PMk X (.Call (.Name n p) [.Constant (.str m) k p2] [] pos) (fun _ H Q => Q (.ref (A.ca j)) none H)
theorem GdS.scr (g : GdS X C G A sc) : ScR X sc where
  l := fun n h => by rw [g.sceq]; exact h
  c := fun n h => ⟨by rw [g.sceq]; exact h, g.fna n⟩
  f := fun n h => by rw [g.sceq]; exact .inr h
  g := fun n h => by rw [g.sceq]; exact h
  k := by rw [g.sceq]; exact g.kind
theorem GdS.bk (g : GdS X C G A sc) : X.env.blockKind = .function := by
  unfold Env.blockKind
  rw [g.sceq, g.kind]
  rfl
theorem sw_false (g : GdS X C G A sc) {a : Expr} {n : Str} {p : Pos} {l : Nat} (h : swB sc a n p = false) : swapsWith a (some (.Name n p)) l X.env = pure false := by
  cases a <;> first | rfl | (cases h; done) | skip
  rename_i elt gs s cp
  unfold swapsWith
  have hk : (X.env.kindOf n == some .local) = decide (sc.names.lookup n = some .local) := by
    unfold Env.kindOf
    rw [g.sceq]
    by_cases q : sc.names.lookup n = some .local
    · rw [q]; rfl
    · rw [decide_eq_false q]
      exact beq_eq_false_iff_ne.mpr q
  simp only [g.bk, hk, Expr.pos]
  unfold swB at h
  simp only at h
  show (pure ((ScopeKind.function == .function) && decide (sc.names.lookup n = some .local) && (p.line == cp.line) && !(s.names.any fun (m, k) => m == n && (k == .local || k == .cell))) : Sem Bool) = pure false
  rw [show ((ScopeKind.function == .function) && decide (sc.names.lookup n = some .local) && (p.line == cp.line) && !(s.names.any fun (m, k) => m == n && (k == .local || k == .cell))) = false by
    rw [Bool.and_assoc, Bool.and_assoc]
    exact h]
theorem sw_yes (g : GdS X C G A sc) {elt : Expr} {gs : List Comprehension} {s : Scope} {cp : Pos} {n : Str} {p : Pos} {l : Nat} (h : swB sc (.ListComp elt gs s cp) n p = true) : sc.names.lookup n = some .local ∧ swapsWith (.ListComp elt gs s cp) (some (.Name n p)) l X.env = pure true := by
  unfold swB at h
  simp only [Bool.and_eq_true, decide_eq_true_eq, Bool.not_eq_true'] at h
  exact ⟨h.1, sw_true (by rw [g.sceq]; exact g.kind) (by rw [g.sceq]; exact h.1) h.2.1 h.2.2⟩
theorem sw_sole {ts : List Expr} {a t : Expr} {l : Nat} (h : swSole ts a = true) : swapsWith a (some t) l X.env = pure false ∧ swapsWith a none l X.env = pure false := by
  cases a <;> first | exact ⟨rfl, rfl⟩ | cases h
theorem sw_none {t a : Expr} (h : swNone t a = true) : swappedStores [t] a X.env = pure none := by
  cases t <;> first | rfl | (cases a <;> first | rfl | cases h)
theorem swapped_eq (g : GdS X C G A sc) {ts vs : List Expr} {k k2 : Nat} {pt pt2 : Pos} :
    (swPair sc ts vs = some false → swappedStores [.Tuple ts k pt] (.Tuple vs k2 pt2) X.env = pure none) ∧
    (swPair sc ts vs = some true → swappedStores [.Tuple ts k pt] (.Tuple vs k2 pt2) X.env = pure (some (swNames sc ts)) ∧ (swNames sc ts).length = ts.length ∧ (ts.length = 2 ∨ ts.length = 3)) := by
  have hk : ∀ n, (X.env.kindOf n == some .local) = decide (sc.names.lookup n = some .local) := fun n => by
    unfold Env.kindOf
    rw [g.sceq]
    by_cases q : sc.names.lookup n = some .local
    · rw [q]; rfl
    · rw [decide_eq_false q]
      exact beq_eq_false_iff_ne.mpr q
  have hb : (X.env.blockKind != .function) = false := by rw [g.bk]; rfl
  have hn : (ts.filterMap fun
        | .Name id pos => if X.env.kindOf id == some .local && pos.line == (ts.head?.map (·.pos.line)).getD 0 then some id else none
        | _ => none) = swNames sc ts := by
    unfold swNames
    simp only [hk]
  have e : swappedStores [.Tuple ts k pt] (.Tuple vs k2 pt2) X.env = (
      if (!(ts.length == 2 || ts.length == 3) || vs.length != ts.length || X.env.blockKind != .function) = true then pure none else
      if (vs.any fun | .Starred .. => true | _ => false) = true then pure none else
      if ((swNames sc ts).length != ts.length || (swNames sc ts).eraseDups.length != (swNames sc ts).length) = true then pure none else
      if vs.all (foldedForSure 8) = true then pure none else
      if vs.all (constantsAlone 8) = true then (do unsupported "assign.tuple-of-constant-expressions:order-of-the-stores"; pure (some (swNames sc ts))) else pure (some (swNames sc ts))) := by
    rw [← hn]
    rfl
  rw [e]
  simp only [hb, Bool.or_false]
  unfold swPair
  refine ⟨fun h => ?_, fun h => ?_⟩
  · split at h
    · rename_i q; rw [if_pos q]
    · rename_i q
      rw [if_neg q]
      split at h
      · rename_i q2; rw [if_pos q2]
      · rename_i q2
        rw [if_neg q2]
        split at h
        · rename_i q3; rw [if_pos q3]
        · rename_i q3
          rw [if_neg q3]
          split at h
          · rename_i q4; rw [if_pos q4]
          · rename_i q4
            split at h <;> cases h
  · split at h
    · cases h
    · rename_i q
      rw [if_neg q]
      split at h
      · cases h
      · rename_i q2
        rw [if_neg q2]
        split at h
        · cases h
        · rename_i q3
          rw [if_neg q3]
          split at h
          · cases h
          · rename_i q4
            rw [if_neg q4]
            split at h
            · cases h
            · rename_i q5
              rw [if_neg q5]
              refine ⟨rfl, ?_, ?_⟩
              · simp only [Bool.or_eq_true, bne_iff_ne, ne_eq, not_or, Classical.not_not] at q3
                exact q3.1
              · simp only [Bool.or_eq_true, Bool.not_eq_true', bne_iff_ne, ne_eq, not_or, Classical.not_not, Bool.not_eq_false, beq_iff_eq] at q
                exact q.1
end
end Rf

set_option maxRecDepth 100000
set_option maxHeartbeats 2000000
/-! Rf23: soundness of the statements' check. -/
namespace Rf
open PySem PySem.Spec PyProof.Rows L2
variable [TN]
section
variable {X : Cx} {C : Cfg} {G : Gam} {A : Ac} {sc : Scope}
theorem comp_ok {elt : E} {tg : Tg} {it : It} {cs : Es} {own : List Nat} {a : Expr} (g : Gd X C G A) (hs : ScR X sc) (h : chkE C sc (.comp elt tg it cs own) a = true) :
    ∃ eltx tgx iter ifs scope p own', a = .ListComp eltx [⟨tgx, iter, ifs, 0⟩] scope p ∧ own'.map (·.2) = own ∧ CompOk X C G A elt tg it cs own' eltx tgx iter ifs scope := by
  unfold chkE at h
  split at h
  · rename_i eltx tgx iter ifs scope p
    simp only [Bool.and_eq_true] at h
    obtain ⟨h1, h2, h3, h4, h5, h6, h7, h8, h9⟩ := h
    have ok := hs.blkOk g.hN h2
    exact ⟨eltx, tgx, iter, ifs, scope, p, ownN C own, rfl, ownN_ix, sndI it _ X A sc [] tgx iter g hs h9, ok, by rw [ownN_ix]; exact val_of g h3, by rw [ownN_ix]; exact fun i hi => List.contains_iff_mem.mp (List.all_eq_true.mp h4 i hi), keep_of h5,
        (fun s H D cl fp => sndG (g.blk s H scope D cl fp) (ScR.blk s H scope D cl fp ok.kind) tg tgx h6),
        (fun s H D cl fp => sndC cs _ (X.blk s H scope (compEnvC scope cl D X.env) fp) A.blk scope ifs (g.blk s H scope D cl fp) (ScR.blk s H scope D cl fp ok.kind) h7),
        (fun s H D cl fp => sndE elt _ (X.blk s H scope (compEnvC scope cl D X.env) fp) A.blk scope eltx (g.blk s H scope D cl fp) (ScR.blk s H scope D cl fp ok.kind) h8), h1⟩
  · cases h
theorem comp_lst {elt : E} {tg : Tg} {it : It} {cs : Es} {own : List Nat} : (∀ e d e', denE G (.comp elt tg it cs own) e = some (.ok d, e') → isOb d = true) ∧ ∀ e d e', denE G (.comp elt tg it cs own) e = some (.ok d, e') → isDic d = false :=
  ⟨fun e d e' h => (by obtain ⟨ds, rfl⟩ := comp_ob e d e' h; rfl), fun e d e' h => by obtain ⟨ds, rfl⟩ := comp_ob e d e' h; rfl⟩
theorem sS_setLc {elt : E} {tg : Tg} {it : It} {cs : Es} {own : List (Str × Nat)} {eltx tgx iter : Expr} {ifs : List Expr} {scope : Scope} {p py pos : Pos} {i : Nat} {n : Str} (g : GdS X C G A sc) (k : CompOk X C G A elt tg it cs own eltx tgx iter ifs scope) (hv : A.ks[i]? = some .val) (hi : X.N[i]? = some n)
    (hl : X.env.scope.names.lookup n = some .local) (hsw : swapsWith (.ListComp eltx [⟨tgx, iter, ifs, 0⟩] scope p) (some (.Name n py)) pos.line X.env = pure true) :
    PS X (.Assign [.Name n py] (.ListComp eltx [⟨tgx, iter, ifs, 0⟩] scope p) pos) (tS C G A (.set i (.comp elt tg it cs (own.map (·.2))))) :=
  (ps_setLc g.calm g.nd hi hl hsw k.hi k.ok k.hg k.hts k.he (folded_of k.hs)).weak fun D σ H h =>
    comp_X k.hv k.ht k.hk (X_of_V (C := C) comp_lst.1 (.inr ⟨rfl, comp_lst.2⟩) (set_go hv (.inl rfl) h))
theorem sS_setCLc {elt : E} {tg : Tg} {it : It} {cs : Es} {own : List (Str × Nat)} {eltx tgx iter : Expr} {ifs : List Expr} {scope : Scope} {p py pos : Pos} {i : Nat} {n : Str} (g : GdS X C G A sc) (k : CompOk X C G A elt tg it cs own eltx tgx iter ifs scope) (hv : Ownish A i) (hpc : ∀ q ∈ A.pcs, q.1 ≠ i) (hi : X.N[i]? = some n)
    (hl : X.env.scope.names.lookup n = some .local) (hsw : swapsWith (.ListComp eltx [⟨tgx, iter, ifs, 0⟩] scope p) (some (.Name n py)) pos.line X.env = pure true) :
    PS X (.Assign [.Name n py] (.ListComp eltx [⟨tgx, iter, ifs, 0⟩] scope p) pos) (tS C G A (.setC i (.comp elt tg it cs (own.map (·.2))))) :=
  (ps_setLc g.calm g.nd hi hl hsw k.hi k.ok k.hg k.hts k.he (folded_of k.hs)).weak fun D σ H h =>
    comp_X k.hv k.ht k.hk (setC_go hv hpc comp_lst.1 h)
theorem GdS.ownish (g : GdS X C G A sc) {i : Nat} (h : ownB C i = true) : Ownish A i := by
  unfold ownB at h
  rw [Bool.or_eq_true, decide_eq_true_eq, decide_eq_true_eq] at h
  unfold Ownish
  rw [g.hks]
  exact h
theorem GdS.nopc (g : GdS X C G A sc) {i : Nat} (h : (!(C.pcl.contains i)) = true) : ∀ q ∈ A.pcs, q.1 ≠ i := fun q hq e => by
  rw [Bool.not_eq_true'] at h
  have := List.contains_iff_mem.mpr (g.pc q hq)
  rw [e, h] at this
  cases this
theorem pv_kd {x : E} {bo : AS} (g : Gd X C G A) : True := trivial
theorem sndP (g : GdS X C G A sc) : ∀ (ps : Par) (es : List Expr), chkPar C sc ps es = true → PA X es (tP G A ps)
  | [], es, h => by
    unfold chkPar at h
    split at h
    · exact sP_nil
    · cases h
  | (i, false, x) :: r, es, h => by
    unfold chkPar at h
    split at h
    · simp only [Bool.and_eq_true] at h
      exact sP_val (keep_of h.2.1) h.1 (sndE x _ X A sc _ g.toGd g.scr h.2.2.1) (sndP g r _ h.2.2.2)
    · cases h
  | (i, true, x) :: r, es, h => by
    unfold chkPar at h
    split at h
    · simp only [Bool.and_eq_true, Bool.or_eq_true, decide_eq_true_eq] at h
      exact sP_own h.2.1 h.1 ⟨fun pins s σ H Q I ⟨bo, z⟩ => (sndE x _ X (A.pv [] bo) sc _ (g.toGd.pv [] bo) g.scr h.2.2.1).run pins s σ H Q I z⟩ (sndP g r _ h.2.2.2)
    · cases h
theorem sndEp (g : GdS X C G A sc) {x : E} {e : Expr} (h : chkE (C.pv []) sc x e = true) : PE X e (tEp C G A x) :=
  ⟨fun pins s σ H Q I ⟨bo, z⟩ => (sndE x _ X (A.pv [] bo) sc e (g.toGd.pv [] bo) g.scr h).run pins s σ H Q I z⟩
theorem parOk_of (g : GdS X C G A sc) : ∀ (ps : Par) (ts : List Expr), chkNs C sc ps ts = true → ParOk A ps ∧ NamesOk X ts (ps.map (·.1))
  | [], ts, h => by
    unfold chkNs at h
    split at h
    · exact ⟨fun q hq => (nomatch hq), fun k t i a b => nomatch a⟩
    · cases h
  | (i, o, x) :: r, ts, h => by
    unfold chkNs at h
    split at h
    · rename_i n p es
      simp only [Bool.and_eq_true, decide_eq_true_eq] at h
      obtain ⟨h1, h2, h3, h4⟩ := h
      obtain ⟨o1, o2⟩ := parOk_of g r es h4
      refine ⟨fun q hq => ?_, fun k t j a b => ?_⟩
      · rcases List.mem_cons.mp hq with rfl | hq
        · cases o with
          | true =>
            rw [if_pos rfl] at h3 ⊢
            rw [Bool.and_eq_true] at h3
            exact ⟨g.ownish h3.1, g.nopc h3.2⟩
          | false =>
            rw [if_neg Bool.false_ne_true] at h3 ⊢
            rw [g.hks]
            exact of_decide_eq_true h3
        · exact o1 q hq
      · cases k with
        | zero =>
          simp only [List.getElem?_cons_zero, Option.some.injEq, List.map_cons] at a b
          subst a b
          exact ⟨n, p, rfl, by rw [g.hN]; exact h1, (g.scr.loc h2).1, (g.scr.loc h2).2⟩
        | succ k => exact o2 k t j (by simpa using a) (by simpa using b)
    · cases h
theorem filterMap_full {α β : Type} {f : α → Option β} : ∀ {l : List α}, (l.filterMap f).length = l.length → l.map f = (l.filterMap f).map some
  | [], _ => rfl
  | a :: l, h => by
    have hl := List.length_filterMap_le f l
    cases q : f a with
    | none =>
      rw [List.filterMap_cons_none q] at h
      rw [List.length_cons] at h
      omega
    | some b =>
      rw [List.filterMap_cons_some q] at h ⊢
      rw [List.map_cons, List.map_cons, q, filterMap_full (by simpa using h)]
/-- the pick of swNames -/
def swPick (sc : Scope) (line : Nat) : Expr → Option Str
  | .Name id pos => if (decide (sc.names.lookup id = some .local) && pos.line == line) = true then some id else none
  | _ => none
theorem swNames_eq {ts : List Expr} : swNames sc ts = ts.filterMap (swPick sc ((ts.head?.map (·.pos.line)).getD 0)) := by
  unfold swNames
  congr 1
theorem swPick_some {line : Nat} {x y : Str} {p : Pos} (h : swPick sc line (.Name x p) = some y) : y = x ∧ sc.names.lookup x = some .local := by
  unfold swPick at h
  simp only at h
  split at h
  · rename_i c
    cases h
    simp only [Bool.and_eq_true, decide_eq_true_eq] at c
    exact ⟨rfl, c.1⟩
  · cases h
theorem swNames_two {x y : Str} {px py : Pos} (h : (swNames sc [.Name x px, .Name y py]).length = 2) : swNames sc [.Name x px, .Name y py] = [x, y] ∧ sc.names.lookup x = some .local ∧ sc.names.lookup y = some .local := by
  rw [swNames_eq] at h ⊢
  generalize ([Expr.Name x px, Expr.Name y py].head?.map (·.pos.line)).getD 0 = line at h ⊢
  have e := filterMap_full (l := [Expr.Name x px, Expr.Name y py]) h
  generalize List.filterMap (swPick sc line) [Expr.Name x px, Expr.Name y py] = l at h e ⊢
  match l, h with
  | [a, b], _ =>
    simp only [List.map_cons, List.map_nil, List.cons.injEq, and_true] at e
    obtain ⟨rfl, l1⟩ := swPick_some e.1
    obtain ⟨rfl, l2⟩ := swPick_some e.2
    exact ⟨rfl, l1, l2⟩
theorem swNames_three {x y z : Str} {px py pz : Pos} (h : (swNames sc [.Name x px, .Name y py, .Name z pz]).length = 3) : swNames sc [.Name x px, .Name y py, .Name z pz] = [x, y, z] ∧ sc.names.lookup x = some .local ∧ sc.names.lookup y = some .local ∧ sc.names.lookup z = some .local := by
  rw [swNames_eq] at h ⊢
  generalize ([Expr.Name x px, Expr.Name y py, Expr.Name z pz].head?.map (·.pos.line)).getD 0 = line at h ⊢
  have e := filterMap_full (l := [Expr.Name x px, Expr.Name y py, Expr.Name z pz]) h
  generalize List.filterMap (swPick sc line) [Expr.Name x px, Expr.Name y py, Expr.Name z pz] = l at h e ⊢
  match l, h with
  | [a, b, c], _ =>
    simp only [List.map_cons, List.map_nil, List.cons.injEq, and_true] at e
    obtain ⟨rfl, l1⟩ := swPick_some e.1
    obtain ⟨rfl, l2⟩ := swPick_some e.2.1
    obtain ⟨rfl, l3⟩ := swPick_some e.2.2
    exact ⟨rfl, l1, l2, l3⟩
end
section
variable {X : Cx} {C : Cfg} {G : Gam} {A : Ac} {sc : Scope}
theorem isComp_of {x : E} (h : isComp x = true) : ∃ elt tg it cs own, x = .comp elt tg it cs own := by
  cases x <;> first | exact ⟨_, _, _, _, _, rfl⟩ | cases h
theorem snd_par (g : GdS X C G A sc) {ps : Par} {ts es : List Expr} {k k2 : Nat} {pt pt2 pos : Pos} (h0 : ts.length = ps.length ∧ ps.length ≤ 1000) (h1 : chkNs C sc ps ts = true) (h2 : chkPar C sc ps es = true)
    (h3 : (match swPair sc ts es with
      | some false => true
      | some true => decide (ps.map (·.1)).Nodup
      | none => false) = true) : PS X (.Assign [.Tuple ts k pt] (.Tuple es k2 pt2) pos) (tS C G A (.par ps)) := by
  obtain ⟨ok, nm⟩ := parOk_of g ps ts h1
  have ha := sndP g ps es h2
  obtain ⟨sf, st⟩ := swapped_eq g (ts := ts) (vs := es) (k := k) (k2 := k2) (pt := pt) (pt2 := pt2)
  cases q : swPair sc ts es with
  | none => rw [q] at h3; cases h3
  | some b =>
    rw [q] at h3
    cases b with
    | false => exact sS_par g.hK g.calm g.nd ok nm h0.1 h0.2 ha rfl (sf q)
    | true =>
      have nd := of_decide_eq_true h3
      obtain ⟨sw, l1, l2⟩ := st q
      rcases l2 with l2 | l2
      · match ts, ps, l2, h0 with
        | [t, u], [(i, o1, q1), (j, o2, q2)], _, _ =>
          obtain ⟨x, px, rfl, hi, _, _⟩ := nm 0 t i rfl rfl
          obtain ⟨y, py, rfl, hj, _, _⟩ := nm 1 u j rfl rfl
          obtain ⟨e, hx, hy⟩ := swNames_two l1
          rw [e] at sw
          have hij : i ≠ j := fun z => by subst z; simp at nd
          have es2 : ∃ a b, es = [a, b] := by
            match es, h2 with
            | [a, b], _ => exact ⟨a, b, rfl⟩
            | [], h2 => cases o1 <;> cases h2
            | [a], h2 => cases o1 <;> cases o2 <;> simp [chkPar] at h2
            | a :: b :: c :: r, h2 => cases o1 <;> cases o2 <;> simp [chkPar] at h2
          obtain ⟨a, b, rfl⟩ := es2
          exact sS_par2 g.calm g.nd ok hi hj hij (by rw [g.sceq]; exact hx) (by rw [g.sceq]; exact hy) ha sw
        | [_, _], [], _, h0 => cases h0.1
        | [_, _], [_], _, h0 => cases h0.1
        | [_, _], _ :: _ :: _ :: _, _, h0 => cases h0.1
      · match ts, ps, l2, h0 with
        | [t, u, v], [(i, o1, q1), (j, o2, q2), (l, o3, q3)], _, _ =>
          obtain ⟨x, px, rfl, hi, _, _⟩ := nm 0 t i rfl rfl
          obtain ⟨y, py, rfl, hj, _, _⟩ := nm 1 u j rfl rfl
          obtain ⟨z, pz, rfl, hl, _, _⟩ := nm 2 v l rfl rfl
          obtain ⟨e, hx, hy, hz⟩ := swNames_three l1
          rw [e] at sw
          have hij : i ≠ j := fun z => by subst z; simp at nd
          have hil : i ≠ l := fun z => by subst z; simp at nd
          have hjl : j ≠ l := fun z => by subst z; simp at nd
          have es2 : ∃ a b c, es = [a, b, c] := by
            match es, h2 with
            | [a, b, c], _ => exact ⟨a, b, c, rfl⟩
            | [], h2 => cases o1 <;> cases h2
            | [a], h2 => cases o1 <;> cases o2 <;> simp [chkPar] at h2
            | [a, b], h2 => cases o1 <;> cases o2 <;> cases o3 <;> simp [chkPar] at h2
            | a :: b :: c :: d :: r, h2 => cases o1 <;> cases o2 <;> cases o3 <;> simp [chkPar] at h2
          obtain ⟨a, b, c, rfl⟩ := es2
          exact sS_par3 g.calm g.nd ok hi hj hl hij hil hjl (by rw [g.sceq]; exact hx) (by rw [g.sceq]; exact hy) (by rw [g.sceq]; exact hz) ha sw
        | [_, _, _], [], _, h0 => cases h0.1
        | [_, _, _], [_], _, h0 => cases h0.1
        | [_, _, _], [_, _], _, h0 => cases h0.1
        | [_, _, _], _ :: _ :: _ :: _ :: _, _, h0 => cases h0.1
mutual
theorem sndS (g : GdS X C G A sc) : ∀ (s : Sm) (a : Stmt), chkS C sc s a = true → PS X a (tS C G A s)
  | .set i x, a, h => by
    unfold chkS at h
    split at h
    · rename_i n p e pos
      simp only [Bool.and_eq_true, Bool.or_eq_true, Bool.not_eq_true', decide_eq_true_eq] at h
      obtain ⟨h1, h2, h3, h4, h5, h6⟩ := h
      have hv : A.ks[i]? = some .val := by rw [g.hks]; exact h3
      have hN : X.N[i]? = some n := by rw [g.hN]; exact h1
      cases q : swB sc e n p with
      | false => exact sS_set hv (keep_of h4) g.nd hN (g.scr.loc h2).1 (g.scr.loc h2).2 (sw_false g q) (sndE x _ X A sc e g.toGd g.scr h5)
      | true =>
        rw [q] at h6
        have h6 := h6.resolve_left (fun z => nomatch z)
        obtain ⟨elt, tg, it, cs, own, rfl⟩ := isComp_of h6
        obtain ⟨eltx, tgx, iter, ifs, scope, cp, own', rfl, eo, ok⟩ := comp_ok g.toGd g.scr h5
        obtain ⟨hl, hsw⟩ := sw_yes (l := pos.line) g q
        have r := sS_setLc (pos := pos) g ok hv hN (by rw [g.sceq]; exact hl) hsw
        rw [eo] at r
        exact r
    · cases h
  | .setO i x, a, h => by
    unfold chkS at h
    split at h
    · rename_i n p e pos
      simp only [Bool.and_eq_true, Bool.or_eq_true, decide_eq_true_eq] at h
      obtain ⟨h1, h2, h3, h4, h5, h6, h7⟩ := h
      have hN : X.N[i]? = some n := by rw [g.hN]; exact h1
      exact sS_setO (g.ownish h3) (g.nopc h4) h5 g.nd hN (g.scr.loc h2).1 (g.scr.loc h2).2 (sw_false g (by simpa using h7)) (sndEp g h6)
    · cases h
  | .setC i x, a, h => by
    unfold chkS at h
    split at h
    · rename_i n p e pos
      simp only [Bool.and_eq_true, decide_eq_true_eq] at h
      obtain ⟨h1, h2, h3, h4, h5, h6⟩ := h
      have hN : X.N[i]? = some n := by rw [g.hN]; exact h1
      obtain ⟨elt, tg, it, cs, own, rfl⟩ := isComp_of h5
      obtain ⟨eltx, tgx, iter, ifs, scope, cp, own', rfl, eo, ok⟩ := comp_ok g.toGd g.scr h6
      cases q : swB sc (.ListComp eltx [⟨tgx, iter, ifs, 0⟩] scope cp) n p with
      | false =>
        refine sS_setC (g.ownish h3) (g.nopc h4) comp_lst.1 g.nd hN (g.scr.loc h2).1 (g.scr.loc h2).2 (sw_false g q) ?_
        have r := sX_comp (pos := cp) g.calm g.nd ok.hi ok.ok ok.hv ok.ht ok.hk ok.hg ok.hts ok.he ok.hs
        rw [eo] at r
        exact r
      | true =>
        obtain ⟨hl, hsw⟩ := sw_yes (l := pos.line) g q
        have r := sS_setCLc (pos := pos) g ok (g.ownish h3) (g.nopc h4) hN (by rw [g.sceq]; exact hl) hsw
        rw [eo] at r
        exact r
    · cases h
  | .par ps, a, h => by
    unfold chkS at h
    split at h
    · simp only [Bool.and_eq_true, decide_eq_true_eq] at h
      exact snd_par g h.1 h.2.1 h.2.2.1 h.2.2.2
    · cases h
  | .unp t x, a, h => by
    unfold chkS at h
    split at h
    · simp only [Bool.and_eq_true] at h
      obtain ⟨h1, h2, h3, h4, h5, h6, h7⟩ := h
      exact sS_unp (val_of g.toGd h1) (keep_of h2) (sw_sole h3).1 (sw_none h4) h5 (sndG g.toGd g.scr t _ h6) (sndE x _ X A sc _ g.toGd g.scr h7)
    · cases h
  | .aug i op x, a, h => by
    unfold chkS at h
    split at h
    · simp only [Bool.and_eq_true, decide_eq_true_eq] at h
      obtain ⟨⟨rfl, h0⟩, h1, h2, h3, h4⟩ := h
      exact sS_aug (by rw [g.hks]; exact h3) h0 g.nd (by rw [g.hN]; exact h1) (g.scr.loc h2).1 (g.scr.loc h2).2 (sndE x _ X A sc _ g.toGd g.scr h4)
    · cases h
  | .ext i x, a, h => by
    unfold chkS at h
    split at h
    · simp only [Bool.and_eq_true, decide_eq_true_eq] at h
      obtain ⟨h1, h2, h3, h4, h5⟩ := h
      exact sS_ext (g.ownish h3) h4 g.nd (by rw [g.hN]; exact h1) (g.scr.loc h2).1 (g.scr.loc h2).2 (sndE x _ X A sc _ g.toGd g.scr h5)
    · cases h
  | .app i x, a, h => by
    unfold chkS at h
    split at h
    · simp only [Bool.and_eq_true, decide_eq_true_eq] at h
      obtain ⟨rfl, h1, h2, h3, h4, h5, h6⟩ := h
      obtain ⟨s1, s2, s3, s4⟩ := g.toGd.slot g.scr h2
      exact sS_app g.hK (g.ownish h3) (keep_of h4) s1 s2 s3 s4 h1 h5 (sndE x _ X A sc _ g.toGd g.scr h6)
    · cases h
  | .appX x d, a, h => by
    unfold chkS at h
    split at h
    · simp only [Bool.and_eq_true, decide_eq_true_eq] at h
      obtain ⟨rfl, h1, h2, h3, h4⟩ := h
      exact sS_appX g.hK h2 h1 h3 (sndEp g h4) rfl
    · cases h
  | .ins i x y, a, h => by
    unfold chkS at h
    split at h
    · simp only [Bool.and_eq_true, decide_eq_true_eq] at h
      obtain ⟨rfl, h1, h2, h3, h4, h5, h6, h7, h8⟩ := h
      obtain ⟨s1, s2, s3, s4⟩ := g.toGd.slot g.scr h2
      exact sS_ins g.hK (g.ownish h3) (keep_of h4) s1 s2 s3 s4 h1 h5 h6 (sndE x _ X A sc _ g.toGd g.scr h7) (sndE y _ X A sc _ g.toGd g.scr h8)
    · cases h
  | .rem i x, a, h => by
    unfold chkS at h
    split at h
    · simp only [Bool.and_eq_true, decide_eq_true_eq] at h
      obtain ⟨rfl, h1, h2, h3, h4, h5⟩ := h
      obtain ⟨s1, s2, s3, s4⟩ := g.toGd.slot g.scr h2
      exact sS_rem (C := C) g.hu g.hK (g.ownish h3) s1 s2 s3 s4 h1 h4 (sndE x _ X A sc _ g.toGd g.scr h5)
    · cases h
  | .stx i k x, a, h => by
    unfold chkS at h
    split at h
    · rename_i n p1 b p2 e pos
      simp only [Bool.and_eq_true] at h
      obtain ⟨h1, h2, h3, h4, h5, h6, h7⟩ := h
      obtain ⟨s1, s2, s3, s4⟩ := g.toGd.slot g.scr h1
      have sw : swapsWith e (some (.Subscript (.Name n p1) b p2)) pos.line X.env = pure false := (sw_sole (X := X) h5).1
      exact sS_stx (by have := g.hu; omega) (g.ownish h2) (keep_of h3) s1 s2 s3 s4 h4 (sndE x _ X A sc _ g.toGd g.scr h6) (sndE k _ X A sc _ g.toGd g.scr h7) sw rfl
    · cases h
  | .ex x, a, h => by
    unfold chkS at h
    split at h
    · simp only [Bool.and_eq_true] at h
      exact sS_ex (sndE x _ X A sc _ g.toGd g.scr h.2) (sw_sole (t := .Name "" ⟨0, 0, 0, 0⟩) h.1).2
    · cases h
  | .ifs x p q, a, h => by
    unfold chkS at h
    split at h
    · simp only [Bool.and_eq_true] at h
      exact sS_if (sndT x _ X A sc _ g.toGd g.scr h.1) (sndSs g p _ h.2.1) (sndSs g q _ h.2.2)
    · cases h
  | .ifz Z x p q, a, h => by
    unfold chkS at h
    split at h
    · simp only [Bool.and_eq_true] at h
      exact sS_ifz ⟨fun pins s σ H Q I ⟨bo, z⟩ => (sndT x _ X (A.pv Z bo) sc _ (g.toGd.pv Z bo) g.scr h.1).run pins s σ H Q I z⟩ (sndSs g p _ h.2.1) (sndSs g q _ h.2.2)
    · cases h
  | .fr t it b, a, h => by
    unfold chkS at h
    split at h
    · simp only [Bool.and_eq_true] at h
      obtain ⟨h1, h2, h3, h4, h5⟩ := h
      exact sS_for g.po g.calm (val_of g.toGd h1) (sndI it _ X A sc _ _ _ g.toGd g.scr h4) (sndG g.toGd g.scr t _ h3) (sndSs g b _ h5) h2
    · cases h
  | .wh x b, a, h => by
    unfold chkS at h
    split at h
    · simp only [Bool.and_eq_true] at h
      exact sS_while g.po (sndT x _ X A sc _ g.toGd g.scr h.1) (sndSs g b _ h.2)
    · cases h
  | .ret Z x, a, h => by
    unfold chkS at h
    split at h
    · simp only [Bool.and_eq_true] at h
      refine sS_ret ?_ (sndE x _ X (A.fz Z) sc _ (g.toGd.fz Z) g.scr h.2)
      have h1 := h.1
      split
      · rename_i q
        rw [if_pos q] at h1
        exact of_decide_eq_true h1
      · rename_i q
        rw [if_neg q, Bool.or_eq_true, decide_eq_true_eq, decide_eq_true_eq] at h1
        exact h1
    · cases h
  | .retN, a, h => by
    unfold chkS at h
    split at h
    · exact sS_retN
    · cases h
  | .retO i, a, h => by
    unfold chkS at h
    split at h
    · simp only [Bool.and_eq_true, decide_eq_true_eq] at h
      obtain ⟨s1, s2, s3, s4⟩ := g.toGd.slot g.scr h.1
      exact sS_retO (by rw [g.hks]; exact h.2) s1 s2 s3 s4
    · cases h
  | .rse j, a, h => by
    unfold chkS at h
    split at h
    · simp only [Bool.and_eq_true, decide_eq_true_eq] at h
      exact sS_rse g.calm g.tk (g.exs j _ _ _ _ _ _ h.1 (gl_of g.scr h.2).1)
    · cases h
  | .rsf j x, a, h => by unfold chkS at h; cases h
  | .brk, a, h => by
    unfold chkS at h
    split at h
    · exact sS_brk
    · cases h
  | .cnt, a, h => by
    unfold chkS at h
    split at h
    · exact sS_cnt
    · cases h
  | .dpx _ _ _ _ _ _, a, h => by
    unfold chkS at h
    cases h
  | .dpn _ _ _ _ _ _, a, h => by
    unfold chkS at h
    cases h
  | .bad, a, h => sS_bad
  | .pass, a, h => by
    unfold chkS at h
    split at h
    · exact sS_pass
    · cases h
theorem sndDp (g : GdS X C G A sc) : ∀ (s : Sm) (as rest : List Stmt), chkDp C sc s as = some rest → ∀ ss : List Sm, PSs X rest (tSs C G A ss) → PSs X as (tSs C G A (s :: ss))
  | .dpx i j es Z c p, as, rest, h, ss, hr => by
    unfold chkDp at h
    split at h
    · rename_i n p1 la lp q1 cx ab q2 m q3 n2 q4 m2 q5 ap apos u q6 cpos q7 q8 rest'
      split at h
      · rename_i hh
        cases h
        simp only [Bool.and_eq_true, decide_eq_true_eq, Bool.not_eq_true'] at hh
        obtain ⟨⟨rfl, rfl, rfl, h3, h4, h5, h6⟩, h7, h8, h9, h10, h11, h12, h13, h14, h15, h16⟩ := hh
        obtain ⟨s1, s2, s3, s4⟩ := g.toGd.slot g.scr h12
        obtain ⟨t1, t2, t3, t4⟩ := g.toGd.slot g.scr h13
        exact sS_dpx g.hK g.po g.calm (by rw [g.hks]; exact h4) (by rw [g.hks]; exact h5) h3 g.nd s1 t1 (g.scr.loc h14).1 (g.scr.loc h15).1 (g.scr.loc h14).2 (g.scr.loc h15).2 s2 s3 s4 t2 t3 t4 (sw_false g h16) h7 h6
          ⟨fun po pins s σ H Q I ⟨bo, z⟩ => (sndEs es _ X (A.pv [] bo) sc _ (g.toGd.pv [] bo) g.scr h8).run po pins s σ H Q I z⟩
          ⟨fun pins s σ H Q I ⟨bo, z⟩ => (sndT c _ X (A.pv Z bo) sc _ (g.toGd.pv Z bo) g.scr h9).run pins s σ H Q I z⟩ (sndSs g p _ h10) h11 hr
      · cases h
    · cases h
  | .dpn i es ms Z c p, as, rest, h, ss, hr => by
    unfold chkDp at h
    split at h
    · rename_i n p1 la lp q1 cx ab q2 sts
      split at h
      · rename_i hh
        simp only [Bool.and_eq_true, decide_eq_true_eq, Bool.not_eq_true'] at hh
        obtain ⟨⟨h4, h6⟩, h7, h7k, h8, h9, h10, h12, h14, h16⟩ := hh
        obtain ⟨s1, s2, s3, s4⟩ := g.toGd.slot g.scr h12
        exact sS_dpn (by rw [g.hks]; exact h4) g.nd s1 (g.scr.loc h14).1 (g.scr.loc h14).2 s2 s3 s4 (sw_false g h16) h7 h7k h6
          ⟨fun po pins s σ H Q I ⟨bo, z⟩ => (sndEs es _ X (A.pv [] bo) sc _ (g.toGd.pv [] bo) g.scr h8).run po pins s σ H Q I z⟩
          ⟨fun pins s σ H Q I ⟨bo, z⟩ => (sndT c _ X (A.pv Z bo) sc _ (g.toGd.pv Z bo) g.scr h9).run pins s σ H Q I z⟩ (sndSs g p _ h10) h hr
      · cases h
    · cases h
  | .set _ _, as, rest, h, ss, hr => by unfold chkDp at h; cases h
  | .setO _ _, as, rest, h, ss, hr => by unfold chkDp at h; cases h
  | .setC _ _, as, rest, h, ss, hr => by unfold chkDp at h; cases h
  | .par _, as, rest, h, ss, hr => by unfold chkDp at h; cases h
  | .unp _ _, as, rest, h, ss, hr => by unfold chkDp at h; cases h
  | .aug _ _ _, as, rest, h, ss, hr => by unfold chkDp at h; cases h
  | .ext _ _, as, rest, h, ss, hr => by unfold chkDp at h; cases h
  | .appX _ _, as, rest, h, ss, hr => by unfold chkDp at h; cases h
  | .app _ _, as, rest, h, ss, hr => by unfold chkDp at h; cases h
  | .ins _ _ _, as, rest, h, ss, hr => by unfold chkDp at h; cases h
  | .rem _ _, as, rest, h, ss, hr => by unfold chkDp at h; cases h
  | .stx _ _ _, as, rest, h, ss, hr => by unfold chkDp at h; cases h
  | .ex _, as, rest, h, ss, hr => by unfold chkDp at h; cases h
  | .ifs _ _ _, as, rest, h, ss, hr => by unfold chkDp at h; cases h
  | .ifz _ _ _ _, as, rest, h, ss, hr => by unfold chkDp at h; cases h
  | .fr _ _ _, as, rest, h, ss, hr => by unfold chkDp at h; cases h
  | .wh _ _, as, rest, h, ss, hr => by unfold chkDp at h; cases h
  | .ret _ _, as, rest, h, ss, hr => by unfold chkDp at h; cases h
  | .retN, as, rest, h, ss, hr => by unfold chkDp at h; cases h
  | .retO _, as, rest, h, ss, hr => by unfold chkDp at h; cases h
  | .rse _, as, rest, h, ss, hr => by unfold chkDp at h; cases h
  | .rsf _ _, as, rest, h, ss, hr => by unfold chkDp at h; cases h
  | .brk, as, rest, h, ss, hr => by unfold chkDp at h; cases h
  | .cnt, as, rest, h, ss, hr => by unfold chkDp at h; cases h
  | .pass, as, rest, h, ss, hr => by unfold chkDp at h; cases h
  | .bad, as, rest, h, ss, hr => by unfold chkDp at h; cases h
theorem sndSs (g : GdS X C G A sc) : ∀ (ss : List Sm) (as : List Stmt), chkSs C sc ss as = true → PSs X as (tSs C G A ss)
  | [], as, h => by
    unfold chkSs at h
    split at h
    · exact sS_nil
    · cases h
  | s :: ss, as, h => by
    unfold chkSs at h
    split at h
    · rename_i rest q
      exact sndDp g s as rest q ss (sndSs g ss rest h)
    · split at h
      · rw [Bool.and_eq_true] at h
        exact sS_cons (sndS g s _ h.1) (sndSs g ss _ h.2)
      · cases h
end
end
end Rf

set_option maxRecDepth 100000
set_option maxHeartbeats 2000000
/-! Rf24: a def of the text does what its text in the small language says. -/
namespace Rf
open PySem PySem.Spec PyProof.Rows L2
variable [TN]

/-- the slots at the entry: the parameters -/
def initE : List PK → List D → List D → Option Envd
  | [], [], [] => some []
  | .val :: pk, d :: ds, ks => (initE pk ds ks).map (some d :: ·)
  | .bor :: pk, d :: ds, ks => (initE pk ds ks).map (some d :: ·)
  | .cel :: pk, ds, k :: ks => (initE pk ds ks).map (some k :: ·)
  | _, _, _ => none
def celIx : List PK → Nat → List Nat
  | [], _ => []
  | .cel :: pk, n => n :: celIx pk (n + 1)
  | _ :: pk, n => celIx pk (n + 1)
noncomputable def denF (C : Cfg) (G : Gam) (pk : List PK) (body : List Sm) : FnV := fun ds ks =>
  match initE pk ds ks with
  | none => none
  | some e0 => match denSs G body (e0 ++ List.replicate (C.N.length - pk.length) none) with
    | none => none
    | some (r, e') => match getCs e' (celIx pk 0) with
      | none => none
      | some ks' => match r with
        | .ok .nx => some (.ok .non, ks')
        | .ok (.rt d) => some (.ok d, ks')
        | .error x => some (.error x, ks')
        | _ => none
def PK.sk : PK → SK
  | .val => .val
  | .bor => .bor
  | .cel => .cel
def SlP (K : PySem.W.Frag) (W S : AS) (H : Hp) (p : PK) (d : D) (v : V) : Prop := match p with
  | .val => Rep K S H d v
  | .bor => Vw K W S H d v
  | .cel => ∃ a, v = .ref a ∧ S a ∧ Ob K S H d a
theorem init_ok {K : PySem.W.Frag} {W S : AS} {H : Hp} : ∀ {pk : List PK} {vs : List V} {ds ks : List D}, ArgsR K W S H pk vs ds ks → ∃ e0, initE pk ds ks = some e0 ∧ e0.length = vs.length ∧ vs.length = pk.length ∧
    ∀ (i : Nat) p, pk[i]? = some p → ∃ d v, e0[i]? = some (some d) ∧ vs[i]? = some v ∧ SlP K W S H p d v
  | [], _, _, _, h => by
    obtain ⟨rfl, rfl, rfl⟩ := h
    exact ⟨[], rfl, rfl, rfl, fun i p h => nomatch h⟩
  | .val :: pk, _, _, _, h => by
    obtain ⟨v, vs, d, ds, rfl, rfl, h1, h2⟩ := h
    obtain ⟨e0, e1, e2, e3, e4⟩ := init_ok h2
    refine ⟨some d :: e0, by rw [initE, e1]; rfl, by rw [List.length_cons, List.length_cons, e2], by rw [List.length_cons, List.length_cons, e3], fun i p hp => ?_⟩
    cases i with
    | zero => cases hp; exact ⟨d, v, rfl, rfl, h1⟩
    | succ i => exact e4 i p (by simpa using hp)
  | .bor :: pk, _, _, _, h => by
    obtain ⟨v, vs, d, ds, rfl, rfl, h1, h2⟩ := h
    obtain ⟨e0, e1, e2, e3, e4⟩ := init_ok h2
    refine ⟨some d :: e0, by rw [initE, e1]; rfl, by rw [List.length_cons, List.length_cons, e2], by rw [List.length_cons, List.length_cons, e3], fun i p hp => ?_⟩
    cases i with
    | zero => cases hp; exact ⟨d, v, rfl, rfl, h1⟩
    | succ i => exact e4 i p (by simpa using hp)
  | .cel :: pk, _, _, _, h => by
    obtain ⟨a, vs, k, ks, rfl, rfl, h1, h2, h3⟩ := h
    obtain ⟨e0, e1, e2, e3, e4⟩ := init_ok h3
    refine ⟨some k :: e0, by rw [initE, e1]; rfl, by rw [List.length_cons, List.length_cons, e2], by rw [List.length_cons, List.length_cons, e3], fun i p hp => ?_⟩
    cases i with
    | zero => cases hp; exact ⟨k, .ref a, rfl, rfl, a, rfl, h1, h2⟩
    | succ i => exact e4 i p (by simpa using hp)
theorem celAs_mem : ∀ {pk : List PK} {vs : List V} {i : Nat} {a : Addr}, pk[i]? = some .cel → vs[i]? = some (.ref a) → a ∈ celAs pk vs
  | [], _, _, _, h, _ => nomatch h
  | _ :: _, [], _, _, _, h => nomatch h
  | p :: pk, v :: vs, 0, a, h, h2 => by
    cases h
    cases h2
    exact List.mem_cons_self
  | p :: pk, v :: vs, i + 1, a, h, h2 => by
    have := celAs_mem (pk := pk) (vs := vs) (i := i) (by simpa using h) (by simpa using h2)
    cases p <;> cases v <;> first | exact this | exact List.mem_cons_of_mem _ this
theorem celAs_inj : ∀ {pk : List PK} {vs : List V} {i j : Nat} {a : Addr}, (celAs pk vs).Nodup → pk[i]? = some .cel → pk[j]? = some .cel → vs[i]? = some (.ref a) → vs[j]? = some (.ref a) → i = j
  | [], _, _, _, _, _, h, _, _, _ => nomatch h
  | _ :: _, [], _, _, _, _, _, _, h, _ => nomatch h
  | p :: pk, v :: vs, 0, 0, a, _, _, _, _, _ => rfl
  | p :: pk, v :: vs, 0, j + 1, a, nd, h1, h2, h3, h4 => by
    cases h1
    cases h3
    exact absurd (celAs_mem (pk := pk) (vs := vs) (i := j) (by simpa using h2) (by simpa using h4)) (List.nodup_cons.mp nd).1
  | p :: pk, v :: vs, i + 1, 0, a, nd, h1, h2, h3, h4 => by
    cases h2
    cases h4
    exact absurd (celAs_mem (pk := pk) (vs := vs) (i := i) (by simpa using h1) (by simpa using h3)) (List.nodup_cons.mp nd).1
  | p :: pk, v :: vs, i + 1, j + 1, a, nd, h1, h2, h3, h4 => by
    have nd' : (celAs pk vs).Nodup := by
      cases p <;> cases v <;> first | exact nd | exact (List.nodup_cons.mp nd).2
    rw [celAs_inj (pk := pk) (vs := vs) (i := i) (j := j) nd' (by simpa using h1) (by simpa using h2) (by simpa using h3) (by simpa using h4)]
/-- the places handed in, with their slots -/
def celPr : List PK → List V → Nat → List (Nat × Addr)
  | .cel :: pk, .ref a :: vs, n => (n, a) :: celPr pk vs (n + 1)
  | _ :: pk, _ :: vs, n => celPr pk vs (n + 1)
  | _, _, _ => []
theorem celPr_at : ∀ {pk : List PK} {vs : List V} {n : Nat} {q : Nat × Addr}, q ∈ celPr pk vs n → ∃ i, q.1 = n + i ∧ pk[i]? = some .cel ∧ vs[i]? = some (.ref q.2)
  | [], _, _, _, h => by cases ‹List V› <;> cases h
  | p :: pk, [], n, q, h => by cases p <;> cases h
  | p :: pk, v :: vs, n, q, h => by
    have go : q ∈ celPr pk vs (n + 1) → ∃ i, q.1 = n + i ∧ (p :: pk)[i]? = some .cel ∧ (v :: vs)[i]? = some (.ref q.2) := fun h => by
      obtain ⟨i, h1, h2, h3⟩ := celPr_at h
      exact ⟨i + 1, by omega, by simpa using h2, by simpa using h3⟩
    cases p with
    | cel =>
      cases v with
      | ref a =>
        rcases List.mem_cons.mp h with rfl | h
        · exact ⟨0, rfl, rfl, rfl⟩
        · exact go h
      | _ => exact go h
    | _ => exact go h
/-- at the end the places hold what the slots say -/
theorem cells_end {K : PySem.W.Frag} {W S S' : AS} {H H' : Hp} {e' : Envd} : ∀ {pk : List PK} {vs : List V} {ds ks : List D} {n : Nat} {ks' : List D}, ArgsR K W S H pk vs ds ks → (∀ q ∈ celPr pk vs n, ∃ k, getV e' q.1 = some k ∧ Ob K S' H' k q.2) → getCs e' (celIx pk n) = some ks' → CellsR K S' H' (celAs pk vs) ks'
  | [], _, _, _, n, ks', h, _, g => by
    obtain ⟨rfl, rfl, rfl⟩ := h
    cases g
    exact rfl
  | .val :: pk, _, _, _, n, ks', h, hq, g => by
    obtain ⟨v, vs, d, ds, rfl, rfl, h1, h2⟩ := h
    have := cells_end (n := n + 1) (ks' := ks') (e' := e') h2 (fun q hm => hq q (by cases v <;> exact hm)) g
    cases v <;> exact this
  | .bor :: pk, _, _, _, n, ks', h, hq, g => by
    obtain ⟨v, vs, d, ds, rfl, rfl, h1, h2⟩ := h
    have := cells_end (n := n + 1) (ks' := ks') (e' := e') h2 (fun q hm => hq q (by cases v <;> exact hm)) g
    cases v <;> exact this
  | .cel :: pk, _, _, _, n, ks', h, hq, g => by
    obtain ⟨a, vs, k, ks, rfl, rfl, h1, h2, h3⟩ := h
    obtain ⟨k1, ks1, rfl, g1, g2⟩ := getCs_cons g
    obtain ⟨k2, g3, g4⟩ := hq (n, a) List.mem_cons_self
    rw [g1] at g3
    cases g3
    exact ⟨k1, ks1, rfl, g4, cells_end (n := n + 1) h3 (fun q hm => hq q (List.mem_cons_of_mem _ hm)) g2⟩
theorem getCs_of {e' : Envd} : ∀ {cs : List Nat}, (∀ i ∈ cs, ∃ k, getV e' i = some k) → ∃ ks', getCs e' cs = some ks'
  | [], _ => ⟨[], rfl⟩
  | i :: is, h => by
    obtain ⟨k, h1⟩ := h i List.mem_cons_self
    obtain ⟨ks, h2⟩ := getCs_of fun j hj => h j (List.mem_cons_of_mem _ hj)
    exact ⟨k :: ks, by rw [getCs, h1, h2]⟩

/-- how the parameters' kinds fit -/
def pkB (C : Cfg) (pk : List PK) : Bool := decide (C.ks.take pk.length = pk.map PK.sk ∧ pk.length ≤ C.N.length ∧ C.ks.length = C.N.length) && ((celIx pk 0).all (C.pcl.contains ·))
theorem celIx_mem : ∀ {pk : List PK} {n i : Nat}, pk[i]? = some .cel → n + i ∈ celIx pk n
  | [], _, _, h => nomatch h
  | p :: pk, n, 0, h => by cases h; exact List.mem_cons_self
  | p :: pk, n, i + 1, h => by
    have := celIx_mem (pk := pk) (n := n + 1) (i := i) (by simpa using h)
    have e : n + 1 + i = n + (i + 1) := by omega
    rw [e] at this
    cases p <;> first | exact this | exact List.mem_cons_of_mem _ this
theorem pk_at {C : Cfg} {pk : List PK} (h : pkB C pk = true) {i : Nat} {p : PK} (hp : pk[i]? = some p) : C.ks[i]? = some p.sk := by
  unfold pkB at h
  rw [Bool.and_eq_true, decide_eq_true_eq] at h
  have hi : i < pk.length := (List.getElem?_eq_some_iff.mp hp).1
  have e : (C.ks.take pk.length)[i]? = C.ks[i]? := List.getElem?_take_of_lt hi
  rw [← e, h.1.1, List.getElem?_map, hp]
  rfl
section
variable {P : Program} {w : World} {K : PySem.W.Frag} {mg : Str → Option Value} {base : Heap}
/-- the run of one call -/
def Ac.of (K : PySem.W.Frag) (C : Cfg) (ca : Nat → Addr) (cf : Nat → Str) (pk : List PK) (S : AS) (H : Hp) (vs : List V) (E : XK) : Ac :=
  { K := K, ks := C.ks, S0 := S, H0 := H, Wp := fun a => a ∈ celAs pk vs, pcs := celPr pk vs 0, bo := fun a => H a ≠ none ∧ a ∉ celAs pk vs, XW := E, ca := ca, cf := cf }
theorem start_at {N : List Str} {vs : List V} {i : Nat} {v : V} : (L2.start N vs)[i]? = some (some v) ↔ vs[i]? = some v := by
  unfold L2.start
  by_cases hi : i < vs.length
  · rw [List.getElem?_append_left (by rw [List.length_map]; exact hi), List.getElem?_map]
    cases vs[i]? <;> simp
  · rw [List.getElem?_append_right (by rw [List.length_map]; omega), List.getElem?_eq_none_iff.mpr (show vs.length ≤ i by omega)]
    refine ⟨fun h => ?_, fun h => nomatch h⟩
    rw [List.length_map] at h
    obtain ⟨_, h⟩ := List.getElem?_eq_some_iff.mp h
    rw [List.getElem_replicate] at h
    cases h
theorem entry_ok {C : Cfg} {ca : Nat → Addr} {cf : Nat → Str} {pk : List PK} {S : AS} {H : Hp} {vs : List V} {ds ks : List D} {E : XK} (hpk : pkB C pk = true) (hs : ∀ a, S a → H a ≠ none) (nd : (celAs pk vs).Nodup) (h : ArgsR K (fun a => a ∈ celAs pk vs) S H pk vs ds ks) :
    ∃ e0, initE pk ds ks = some e0 ∧ SR (Ac.of K C ca cf pk S H vs E) S (e0 ++ List.replicate (C.N.length - pk.length) none) (L2.start C.N vs) H := by
  obtain ⟨e0, h1, h2, h3, h4⟩ := init_ok h
  have hp := hpk
  unfold pkB at hp
  rw [Bool.and_eq_true, decide_eq_true_eq] at hp
  obtain ⟨⟨p1, p2, p3⟩, p4⟩ := hp
  have own_lt : ∀ {i : Nat} {a : Addr}, Ownish (Ac.of K C ca cf pk S H vs E) i → (L2.start C.N vs)[i]? = some (some (V.ref a)) → pk[i]? = some .cel ∧ vs[i]? = some (.ref a) := fun {i a} ho hi => by
    have hv := start_at.mp hi
    have hl : i < pk.length := by rw [← h3]; exact (List.getElem?_eq_some_iff.mp hv).1
    obtain ⟨p, hp⟩ : ∃ p, pk[i]? = some p := ⟨_, List.getElem?_eq_getElem hl⟩
    have k := pk_at hpk hp
    have ho : C.ks[i]? = some .own ∨ C.ks[i]? = some .cel := ho
    rw [k] at ho
    cases p with
    | cel => exact ⟨hp, hv⟩
    | val => rcases ho with z | z <;> cases z
    | bor => rcases ho with z | z <;> cases z
  refine ⟨e0, h1, ?_⟩
  exact {
    len := by unfold L2.start; rw [List.length_append, List.length_append, List.length_map, List.length_replicate, List.length_replicate, h2, h3]
    s0 := fun a z => z
    s0h := hs
    dom := hs
    new := fun a z => .inl z
    wp := fun a z => by
      have go : ∀ {pk : List PK} {vs : List V} {ds ks : List D} {W : AS}, ArgsR K W S H pk vs ds ks → ∀ a ∈ celAs pk vs, S a := by
        intro pk
        induction pk with
        | nil => intro vs ds ks W h a ha; obtain ⟨rfl, _, _⟩ := h; cases ha
        | cons p pk ih =>
          intro vs ds ks W h a ha
          cases p with
          | val => obtain ⟨v, vs, d, ds, rfl, rfl, _, h2⟩ := h; exact ih h2 a (by cases v <;> exact ha)
          | bor => obtain ⟨v, vs, d, ds, rfl, rfl, _, h2⟩ := h; exact ih h2 a (by cases v <;> exact ha)
          | cel =>
            obtain ⟨b, vs, k, ks, rfl, rfl, h1, _, h3⟩ := h
            rcases List.mem_cons.mp ha with rfl | ha
            · exact h1
            · exact ih h3 a ha
      exact hs a (go h a z)
    fr := Kp.refl _ _
    non := fun i q _ => by
      by_cases hi : i < e0.length
      · rw [List.getElem?_append_left hi] at q
        obtain ⟨p, hp⟩ : ∃ p, pk[i]? = some p := ⟨_, List.getElem?_eq_getElem (by rw [← h3, ← h2]; exact hi)⟩
        obtain ⟨d, v, z, _⟩ := h4 i p hp
        rw [z] at q
        cases q
      · rw [List.getElem?_append_right (by omega)] at q
        have hl := (List.getElem?_eq_some_iff.mp q).1
        rw [List.length_replicate] at hl
        unfold L2.start
        rw [List.getElem?_append_right (by rw [List.length_map, ← h2]; omega), List.length_map]
        have e1 : e0.length = pk.length := h2.trans h3
        rw [List.getElem?_replicate, if_pos (by omega)]
    slot := fun i d q => by
      by_cases hi : i < e0.length
      · rw [List.getElem?_append_left hi] at q
        obtain ⟨p, hp⟩ : ∃ p, pk[i]? = some p := ⟨_, List.getElem?_eq_getElem (by rw [← h3, ← h2]; exact hi)⟩
        obtain ⟨d', v, z, hv, sl⟩ := h4 i p hp
        rw [z] at q
        cases q
        refine ⟨v, start_at.mpr hv, ?_⟩
        show SlR _ S H C.ks[i]? _ v
        rw [pk_at hpk hp]
        cases p with
        | val => exact sl
        | bor =>
          rcases sl with sl | ⟨a, e1, n, ob⟩
          · exact .inl sl
          · exact .inr ⟨a, e1, fun z => z ⟨ob.dom, n⟩, ob⟩
        | cel =>
          obtain ⟨a, rfl, s1, ob⟩ := sl
          exact ⟨a, rfl, s1, .inl (celAs_mem hp hv), ob⟩
      · rw [List.getElem?_append_right (by omega)] at q
        obtain ⟨_, q⟩ := List.getElem?_eq_some_iff.mp q
        rw [List.getElem_replicate] at q
        cases q
    dist := fun i j a hij hi hj q1 q2 => by
      obtain ⟨a1, a2⟩ := own_lt hi q1
      obtain ⟨b1, b2⟩ := own_lt hj q2
      exact hij (celAs_inj nd a1 b1 a2 b2)
    bo := fun a z => ⟨z.1, fun ⟨i, hi, q⟩ => by
      obtain ⟨a1, a2⟩ := own_lt hi q
      exact z.2 (celAs_mem a1 a2)⟩
    pc := fun q hq => by
      obtain ⟨i, e, k1, k2⟩ := celPr_at hq
      rw [Nat.zero_add] at e
      rw [e]
      exact ⟨pk_at hpk k1, start_at.mpr k2⟩ }
/-- what must be known behind the top of a text's names -/
structure Env1 (P : Program) (w : World) (K : PySem.W.Frag) (mg : Str → Option Value) (base : Heap) (C : Cfg) (G : Gam) (ca : Nat → Addr) (cf : Nat → Str) (k : Nat) : Prop where
  fns : ∀ (j : Nat) I, C.fns[j]? = some I → ∃ (fa : Addr) (fd : FuncData) (ps : List Str) (j' : Nat), (mg I.name = some (.ref fa) ∧ fa = He.ga K I.name) ∧ PySem.W.keepIn K (.ref fa) = true ∧ Binds K fd ps [] ∧ FnOk P w K mg base (L2N.CX P w) j' fa fd ps (spF K ca cf I.pk I.fresh (G.fn j)) ∧ j' ≤ k
  bl : ∀ n, C.bl.contains n = true → mg n = none
  gcs : ∀ (j : Nat) n d, C.gcs[j]? = some n → G.gc j = some d → ∃ u v, mg n = some u ∧ RelV v u ∧ Rep K (fun _ => True) (fun _ => none) d v
  exs : ∀ (j : Nat) n, C.exs[j]? = some n → ∃ (bmB : List Value) (B newId initId : String), ExcBaseFacts B newId initId bmB ∧ PySem.W.excIn K (ca j) bmB newId = true ∧ mg n = some (.ref (ca j)) ∧ PySem.W.keepIn K (.ref (ca j)) = true ∧ (n == ("__debug__" : Str)) = false ∧
    ∀ (M : Model) (h : Heap), K.In h → PySem.W.Looks M h (isSubtype (.ref (ca j)) (.type "BaseException")) true ∧ PySem.W.Looks M h (typeOf (.ref (ca j))) (.type "type")
/-- the code object of the def at f -/
def CodeAt (K : PySem.W.Frag) (f : Addr) (cdv : Value) : Prop := (∃ (oc : Value) (od : Option Addr) (osl : Array (Option Value)) (fd : FuncData), K.lookup f = some ⟨oc, od, .func fd, osl⟩ ∧ fd.code = cdv) ∧ ∃ q, PySem.W.codeIn K cdv q = true
theorem def_okT {x qual : Str} {st : Stmt} {params : Arguments} {f : Addr} {fd : FuncData} {ps : List Str} {k : Nat} {C : Cfg} {G : Gam} {ca : Nat → Addr} {cf : Nat → Str} {pk : List PK} {body : List Sm} (pre : Hp → Prop) (F : FunD K x qual params (defBody st) (defScope st) [] [] f fd) (Sc : FnScope C.N ps (defScope st)) (hlen : ps.length = pk.length)
    (hpk : pkB C pk = true) (env : Env1 P w K mg base C G ca cf k) (hpcl : ∀ i ∈ celIx pk 0, i ∈ C.pcl) (hchk : chkSs C (defScope st) body (defBody st) = true)
    (htri : C.tri = true → ∀ cdv, CodeAt K f cdv → ∀ (A : Around) (outer : List Env) (s : Shared) (H : Hp) (E : XK) (S : AS) (vs : List V), pre H → Room k (A.deeper (envOfC qual (defScope st) s.heap.objs.size f cdv)) →
      TriOk (cxOf (L2N.CX P w) P w K mg base C.N qual (defScope st) f cdv A outer s H E) C G (Ac.of K C ca cf pk S H vs E)) :
    FnOk P w K mg base (L2N.CX P w) (k + 1) f fd ps (fun vs H Q E => pre H ∧ spF K ca cf pk C.ret (denF C G pk body) vs H Q E) := by
  obtain ⟨oc, od, dV, kV, doc, pm, an, cdv, ct, osl, rfl, lk, hcd, _, _⟩ := F.ex
  refine fn_of lk hcd Sc (fun vs H Q E ⟨_, S, ds, ks, r, ks', h1, h2, h3, h4, h5⟩ => ?_) fun A outer s H vs Q E room ⟨hpre, S, ds, ks, r, ks', h1, h2, h3, h4, h5⟩ => ?_
  · obtain ⟨e0, _, _, z, _⟩ := init_ok h3
    rw [z, hlen]
  obtain ⟨e0, he0, R⟩ := entry_ok (E := E) (ca := ca) (cf := cf) hpk h1 h2 h3
  have pcs_in : ∀ q ∈ celPr pk vs 0, q.1 ∈ celIx pk 0 := fun q hq => by
    obtain ⟨i, e, k1, _⟩ := celPr_at hq
    rw [e]
    exact celIx_mem k1
  have gd : GdS (cxOf (L2N.CX P w) P w K mg base C.N qual (defScope st) f cdv A outer s H E) C G (Ac.of K C ca cf pk S H vs E) (defScope st) :=
    { hK := rfl, hks := rfl, hN := rfl, nd := Sc.nd, calm := rfl, hu := by have := room.un; show (A.deeper _).units + 102 < cLine; omega,
      tk := L2N.takes_of rfl rfl rfl rfl,
      fns := fun j I hI => by
        obtain ⟨fa, fd, ps, j', a1, a2, a3, a4, a5⟩ := env.fns j I hI
        exact ⟨fa, fd, ps, j', a1, a2, a3, a4, room.mono a5⟩,
      bl := env.bl,
      gcs := fun j n d h1 h2 => env.gcs j n d h1 h2,
      tri := fun h => htri h cdv ⟨⟨_, _, _, _, lk, rfl⟩, _, hcd⟩ A outer s H E S vs hpre room,
      sceq := rfl, kind := Sc.kind, fna := fun _ => rfl, po := passes_of rfl, pc := fun q hq => hpcl _ (pcs_in q hq),
      exs := fun j n m k2 p p2 pos hj hg => by
        obtain ⟨bmB, B, newId, initId, b1, b2, b3, b4, b5, b6⟩ := env.exs j n hj
        exact L2N.pmk_own b1 b2 b3 b4 b6 hg b5 }
  refine ⟨_, sndSs gd body (defBody st) hchk, ?_⟩
  unfold denF at h4
  rw [he0] at h4
  simp only at h4
  cases q : denSs G body (e0 ++ List.replicate (C.N.length - pk.length) none) with
  | none => rw [q] at h4; cases h4
  | some o =>
    obtain ⟨r1, e'⟩ := o
    rw [q] at h4
    simp only at h4
    cases qc : getCs e' (celIx pk 0) with
    | none => rw [qc] at h4; cases h4
    | some ks1 =>
      rw [qc] at h4
      refine ⟨S, _, r1, e', R, q, ?_⟩
      have cells : ∀ {H' : Hp}, EndR (Ac.of K C ca cf pk S H vs E) e' H' → CellsR K S H' (celAs pk vs) ks1 := fun {H'} en => cells_end h3 en.2 qc
      cases r1 with
      | error y =>
        cases h4
        exact fun cls dd H' en ex => h5 cls dd H' en.1 (cells en) ex
      | ok fl =>
        cases fl with
        | nx =>
          cases h4
          intro S' σ' H' m R'
          refine h5 .non H' R'.endR.1 (cells R'.endR) ?_
          unfold ResR
          split
          · exact ⟨.non, rfl⟩
          · exact .non
        | rt d =>
          cases h4
          exact fun v H' en res => h5 v H' en.1 (cells en) res
        | bk => cases h4
        | ct => cases h4
theorem def_ok {x qual : Str} {st : Stmt} {params : Arguments} {f : Addr} {fd : FuncData} {ps : List Str} {k : Nat} {C : Cfg} {G : Gam} {ca : Nat → Addr} {cf : Nat → Str} {pk : List PK} {body : List Sm} (F : FunD K x qual params (defBody st) (defScope st) [] [] f fd) (Sc : FnScope C.N ps (defScope st)) (hlen : ps.length = pk.length)
    (hpk : pkB C pk = true) (env : Env1 P w K mg base C G ca cf k) (hpcl : ∀ i ∈ celIx pk 0, i ∈ C.pcl) (hchk : chkSs C (defScope st) body (defBody st) = true) (ht : C.tri = false) :
    FnOk P w K mg base (L2N.CX P w) (k + 1) f fd ps (spF K ca cf pk C.ret (denF C G pk body)) :=
  (def_okT (fun _ => True) F Sc hlen hpk env hpcl hchk fun z => by rw [ht] at z; cases z).imp fun _ _ _ _ h => ⟨trivial, h⟩
end
end Rf

set_option maxRecDepth 100000
set_option maxHeartbeats 2000000
/-! Rf27: the meaning, form by form, for simp. -/
namespace Rf
open PySem PySem.Spec PyProof.Rows L2
variable (G : Gam)
/-- loops and blocks under names of their own, that simp does not open -/
noncomputable def frD (G : Gam) (t : Tg) (b : List Sm) (ds : List D) (e : Envd) : Rs Fl := forL (asgT t) (denSs G b) ds e
noncomputable def whD (G : Gam) (c : E) (b : List Sm) (e : Envd) : Rs Fl := whL (fun e1 => tst (denE G c e1)) (denSs G b) e
noncomputable def cmD (G : Gam) (elt : E) (t : Tg) (cs : Es) (own : List Nat) (ds : List D) (e : Envd) : Option (List D × Envd) := compL own (asgT t) (denCs G cs) (denE G elt) ds e
@[simp] theorem bA_ii (i j : Int) : binD .Add (.int i) (.int j) = some (.int (i + j)) := rfl
@[simp] theorem bS_ii (i j : Int) : binD .Sub (.int i) (.int j) = some (.int (i - j)) := rfl
@[simp] theorem bM_ii (i j : Int) : binD .Mult (.int i) (.int j) = if mulB i j = true then some (.int (i * j)) else none := rfl
@[simp] theorem bF_ii (i j : Int) : binD .FloorDiv (.int i) (.int j) = if 0 < j ∧ j.natAbs.log2 < 9000 then some (.int (i / j)) else none := rfl
@[simp] theorem bR_ii (i j : Int) : binD .Mod (.int i) (.int j) = if 0 < j then some (.int (i % j)) else none := rfl
@[simp] theorem bP_ii (i j : Int) : binD .Pow (.int i) (.int j) = if 0 ≤ j ∧ j ≤ 1000000 ∧ i.natAbs < 2 ^ 64 then some (.int (i ^ j.toNat)) else none := rfl
@[simp] theorem bA_ll (a b : List D) : binD .Add (.lst a) (.lst b) = if a.length + b.length ≤ LIM then some (.lst (a ++ b)) else none := rfl
@[simp] theorem bA_tt (a b : List D) : binD .Add (.tup a) (.tup b) = if a.length + b.length ≤ LIM then some (.tup (a ++ b)) else none := rfl
@[simp] theorem bA_ss (x y : Str) : binD .Add (.str x) (.str y) = if x.length + y.length ≤ LIM then some (.str (x ++ y)) else none := rfl
@[simp] theorem bM_li (a : List D) (k : Int) : binD .Mult (.lst a) (.int k) = if 0 ≤ k ∧ k < 2 ^ 62 ∧ a.length * k.toNat ≤ LIM then some (.lst (List.replicate k.toNat a).flatten) else none := by
  show @ite _ _ (Classical.propDecidable _) _ _ = _
  split <;> rename_i h <;> simp only [h, if_true, if_false]
@[simp] theorem bM_ti (a : List D) (k : Int) : binD .Mult (.tup a) (.int k) = if a ≠ [] ∧ 0 ≤ k ∧ k ≤ 1000 ∧ a.length ≤ 1000 then some (.tup (List.replicate k.toNat a).flatten) else none := by
  show @ite _ _ (Classical.propDecidable _) _ _ = _
  split <;> rename_i h <;> simp only [h, if_true, if_false]
@[simp] theorem c_lt (i j : Int) : cmpD .Lt (.int i) (.int j) = some (.bl (decide (i < j))) := rfl
@[simp] theorem c_le (i j : Int) : cmpD .LtE (.int i) (.int j) = some (.bl (decide (i ≤ j))) := rfl
@[simp] theorem c_gt (i j : Int) : cmpD .Gt (.int i) (.int j) = some (.bl (decide (j < i))) := rfl
@[simp] theorem c_ge (i j : Int) : cmpD .GtE (.int i) (.int j) = some (.bl (decide (j ≤ i))) := rfl
@[simp] theorem c_lts (i j : Str) : cmpD .Lt (.str i) (.str j) = some (.bl (decide (i.cps.toList < j.cps.toList))) := rfl
@[simp] theorem c_eq (a b : D) : cmpD .Eq a b = if okEq a b = true then some (.bl (eqD a b)) else none := by cases a <;> cases b <;> rfl
@[simp] theorem c_ne (a b : D) : cmpD .NotEq a b = if okEq a b = true then some (.bl (!eqD a b)) else none := by cases a <;> cases b <;> rfl
@[simp] theorem c_in (a b : D) : cmpD .In a b = (inD a b).map .bl := by cases a <;> cases b <;> rfl
@[simp] theorem c_nin (a b : D) : cmpD .NotIn a b = (inD a b).map fun k => .bl (!k) := by cases a <;> cases b <;> rfl
@[simp] theorem c_isn (a : D) : cmpD .Is a .non = some (.bl (isNon a)) := by cases a <;> rfl
@[simp] theorem c_nisn (a : D) : cmpD .IsNot a .non = some (.bl (!isNon a)) := by cases a <;> rfl
@[simp] theorem c_nisb (a b : Bool) : cmpD .IsNot (.bl a) (.bl b) = some (.bl (!decide (a = b))) := rfl
@[simp] theorem c_isb (a b : Bool) : cmpD .Is (.bl a) (.bl b) = some (.bl (decide (a = b))) := rfl
@[simp] theorem getV_z (o : Option D) (e : Envd) : getV (o :: e) 0 = o := rfl
@[simp] theorem getV_s (o : Option D) (e : Envd) (n : Nat) : getV (o :: e) (n + 1) = getV e n := rfl
@[simp] theorem d_c (d : D) (e : Envd) : denE G (.c d) e = some (.ok d, e) := rfl
@[simp] theorem d_v (i : Nat) (e : Envd) : denE G (.v i) e = pr (getV e i) e := rfl
@[simp] theorem d_g (i : Nat) (e : Envd) : denE G (.g i) e = pr (G.gc i) e := rfl
@[simp] theorem d_tup (es : Es) (e : Envd) : denE G (.tup es) e = bnd (denEs G es e) fun ds e1 => some (.ok (.tup ds), e1) := rfl
@[simp] theorem d_lst (es : Es) (e : Envd) : denE G (.lst es) e = bnd (denEs G es e) fun ds e1 => some (.ok (.lst ds), e1) := rfl
@[simp] theorem d_dic (e : Envd) : denE G .dic e = some (.ok (.dic []), e) := rfl
@[simp] theorem d_bin (op : Operator) (a b : E) (e : Envd) : denE G (.bin op a b) e = bnd (denE G a e) fun x e1 => bnd (denE G b e1) fun y e2 => pr (binD op x y) e2 := rfl
@[simp] theorem d_neg (a : E) (e : Envd) : denE G (.neg a) e = bnd (denE G a e) fun x e1 => match x with
    | .int i => some (.ok (.int (-i)), e1)
    | _ => none := rfl
@[simp] theorem d_cmp (op : CmpOp) (a b : E) (e : Envd) : denE G (.cmp op a b) e = bnd (denE G a e) fun x e1 => bnd (denE G b e1) fun y e2 => pr (cmpD op x y) e2 := rfl
@[simp] theorem d_and (a b : E) (e : Envd) : denE G (.and a b) e = bnd (tst (denE G a e)) fun k e1 => if k = true then bnd (tst (denE G b e1)) fun k2 e2 => some (.ok (.bl k2), e2) else some (.ok (.bl false), e1) := rfl
@[simp] theorem d_or (a b : E) (e : Envd) : denE G (.or a b) e = bnd (tst (denE G a e)) fun k e1 => if k = true then some (.ok (.bl true), e1) else bnd (tst (denE G b e1)) fun k2 e2 => some (.ok (.bl k2), e2) := rfl
@[simp] theorem d_not (a : E) (e : Envd) : denE G (.not a) e = bnd (tst (denE G a e)) fun k e1 => some (.ok (.bl (!k)), e1) := rfl
@[simp] theorem d_ite (c a b : E) (e : Envd) : denE G (.ite c a b) e = bnd (tst (denE G c e)) fun k e1 => if k = true then denE G a e1 else denE G b e1 := rfl
@[simp] theorem d_ix (a b : E) (e : Envd) : denE G (.ix a b) e = bnd (denE G a e) fun x e1 => bnd (denE G b e1) fun y e2 => pr (ixD x y) e2 := rfl
@[simp] theorem d_sl (a : E) (lo hi : Eo) (e : Envd) : denE G (.sl a lo hi) e = bnd (denE G a e) fun x e1 => bnd (denEo G lo e1) fun l e2 => bnd (denEo G hi e2) fun h e3 => pr (slD x l h) e3 := rfl
@[simp] theorem d_cix (i : Nat) (b : E) (e : Envd) : denE G (.cix i b) e = bnd (pr (getV e i) e) fun _ e0 => bnd (denE G b e0) fun y e1 => pr ((getV e1 i).bind fun x => ixD x y) e1 := rfl
@[simp] theorem d_cin (op : CmpOp) (a : E) (i : Nat) (e : Envd) : denE G (.cin op a i) e = bnd (denE G a e) fun x e1 => pr ((getV e1 i).bind fun y => cmpD op x y) e1 := rfl
@[simp] theorem d_bi (b : BI) (es : Es) (e : Envd) : denE G (.bi b es) e = bnd (denEs G es e) fun ds e1 => pr (biD b ds) e1 := rfl
@[simp] theorem d_isi (a : E) (t : Ty) (e : Envd) : denE G (.isi a t) e = bnd (denE G a e) fun x e1 => pr ((isiD x t).map .bl) e1 := rfl
@[simp] theorem d_lset (a : E) (e : Envd) : denE G (.lset a) e = bnd (denE G a e) fun x e1 => pr (lsetD x) e1 := rfl
@[simp] theorem d_call (j : Nat) (es : Es) (cs : List Nat) (e : Envd) : denE G (.call j es cs) e = bnd (denEs G es e) fun ds e1 => match getCs e1 cs with
    | none => none
    | some ks => match G.fn j ds ks with
      | none => none
      | some (r, ks') => some (r, setCs cs ks' e1) := rfl
@[simp] theorem d_comp (elt : E) (tg : Tg) (it : It) (cs : Es) (own : List Nat) (e : Envd) : denE G (.comp elt tg it cs own) e = bnd (denIt G it e) fun ds e1 => match cmD G elt tg cs own ds e1 with
    | some (xs, e2) => some (.ok (.lst xs), backE e1 e2 own)
    | none => none := rfl
@[simp] theorem d_lzip (a b : E) (e : Envd) : denE G (.lzip a b) e = bnd (denE G a e) fun x e1 => bnd (denE G b e1) fun y e2 => pr (lzD x y) e2 := rfl
@[simp] theorem d_chn (o1 o2 : CmpOp) (a b c : E) (e : Envd) : denE G (.chn o1 o2 a b c) e = bnd (denE G a e) fun x e1 => bnd (denE G b e1) fun y e2 => bnd (tst (pr (cmpD o1 x y) e2)) fun k e3 =>
      if k = true then bnd (denE G c e3) fun z e4 => pr (cmpD o2 y z) e4 else some (.ok (.bl false), e3) := rfl
@[simp] theorem d_chn3 (o1 o2 o3 : CmpOp) (a b c d : E) (e : Envd) : denE G (.chn3 o1 o2 o3 a b c d) e = bnd (denE G a e) fun x e1 => bnd (denE G b e1) fun y e2 => bnd (tst (pr (cmpD o1 x y) e2)) fun k e3 =>
      if k = true then bnd (denE G c e3) fun z e4 => bnd (tst (pr (cmpD o2 y z) e4)) fun k2 e5 =>
        if k2 = true then bnd (denE G d e5) fun w e6 => pr (cmpD o3 z w) e6 else some (.ok (.bl false), e5)
      else some (.ok (.bl false), e3) := rfl
@[simp] theorem d_nil (e : Envd) : denEs G .nil e = some (.ok [], e) := rfl
@[simp] theorem d_cons (a : E) (r : Es) (e : Envd) : denEs G (.cons a r) e = bnd (denE G a e) fun x e1 => bnd (denEs G r e1) fun xs e2 => some (.ok (x :: xs), e2) := rfl
@[simp] theorem d_cel (i : Nat) (r : Es) (e : Envd) : denEs G (.cel i r) e = bnd (pr (getV e i) e) fun _ e0 => denEs G r e0 := rfl
@[simp] theorem d_no (e : Envd) : denEo G .no e = some (.ok none, e) := rfl
@[simp] theorem d_so (a : E) (e : Envd) : denEo G (.so a) e = bnd (denE G a e) fun x e1 => match x with
    | .int i => some (.ok (some i), e1)
    | _ => none := rfl
@[simp] theorem d_cs0 (e : Envd) : denCs G .nil e = some (.ok true, e) := rfl
@[simp] theorem d_cs1 (a : E) (e : Envd) : denCs G (.cons a .nil) e = tst (denE G a e) := rfl
@[simp] theorem d_sq (a : E) (e : Envd) : denIt G (.sq a) e = bnd (denE G a e) fun x e1 => pr (itemsD x) e1 := rfl
@[simp] theorem d_en (a : E) (e : Envd) : denIt G (.en a) e = bnd (denE G a e) fun x e1 => pr (enumD x) e1 := rfl
@[simp] theorem d_zp (a b : E) (e : Envd) : denIt G (.zp a b) e = bnd (denE G a e) fun x e1 => bnd (denE G b e1) fun y e2 => pr (zipD x y) e2 := rfl
@[simp] theorem d_r1 (a : E) (e : Envd) : denIt G (.r1 a) e = bnd (denE G a e) fun x e1 => pr (rngD (.int 0) x) e1 := rfl
@[simp] theorem d_r2 (a b : E) (e : Envd) : denIt G (.r2 a b) e = bnd (denE G a e) fun x e1 => bnd (denE G b e1) fun y e2 => pr (rngD x y) e2 := rfl
@[simp] theorem t_ok (b : Bool) (e : Envd) : tst (some (.ok (.bl b), e)) = some (.ok b, e) := rfl
@[simp] theorem t_bl (b : Bool) (e : Envd) : tst (pr (some (.bl b)) e) = some (.ok b, e) := rfl
@[simp] theorem t_none : tst none = none := rfl
@[simp] theorem s_set (i : Nat) (x : E) (e : Envd) : denS G (.set i x) e = bnd (denE G x e) fun d e1 => some (.ok .nx, e1.set i (some d)) := by rw [denS]
@[simp] theorem s_setO (i : Nat) (x : E) (e : Envd) : denS G (.setO i x) e = match denE G x e with
    | none => none
    | some (.error y, _) => some (.error y, e)
    | some (.ok d, _) => if isOb d = true then some (.ok .nx, e.set i (some d)) else none := by first | (rw [denS]; rfl) | rw [denS]
@[simp] theorem s_setC (i : Nat) (x : E) (e : Envd) : denS G (.setC i x) e = bnd (denE G x e) fun d e1 => some (.ok .nx, e1.set i (some d)) := by rw [denS]
@[simp] theorem s_par (ps : List (Nat × Bool × E)) (e : Envd) : denS G (.par ps) e = bnd (denPar G ps e) fun ds e1 => some (.ok .nx, parS ps ds e1) := by rw [denS]
@[simp] theorem s_unp (t : Tg) (x : E) (e : Envd) : denS G (.unp t x) e = bnd (denE G x e) fun d e1 => bnd (pr (asgT t d e1) e1) fun e2 _ => some (.ok .nx, e2) := by rw [denS]
@[simp] theorem s_aug (i : Nat) (op : Operator) (x : E) (e : Envd) : denS G (.aug i op x) e = bnd (pr (getV e i) e) fun a _ => bnd (denE G x e) fun d e1 => bnd (pr (augD op a d) e1) fun r e2 => some (.ok .nx, e2.set i (some r)) := by rw [denS]
@[simp] theorem s_ext (i : Nat) (x : E) (e : Envd) : denS G (.ext i x) e = bnd (pr (lstAt e i) e) fun _ _ => bnd (denE G x e) fun d e1 => bnd (pr ((getV e1 i).bind fun a => extD a d) e1) fun r e2 => some (.ok .nx, e2.set i (some r)) := by rw [denS]
@[simp] theorem s_app (i : Nat) (x : E) (e : Envd) : denS G (.app i x) e = bnd (pr (lstAt e i) e) fun _ _ => bnd (denE G x e) fun d e1 => bnd (pr ((getV e1 i).bind fun a => appD a d) e1) fun r e2 => some (.ok .nx, e2.set i (some r)) := by rw [denS]
@[simp] theorem s_ins (i : Nat) (a b : E) (e : Envd) : denS G (.ins i a b) e = bnd (pr (lstAt e i) e) fun _ _ => bnd (denE G a e) fun x e1 => bnd (denE G b e1) fun y e2 => bnd (pr ((getV e2 i).bind fun l => insD l x y) e2) fun r e3 => some (.ok .nx, e3.set i (some r)) := by rw [denS]
@[simp] theorem s_rem (i : Nat) (x : E) (e : Envd) : denS G (.rem i x) e = bnd (pr (lstAt e i) e) fun _ _ => bnd (denE G x e) fun d e1 => bnd (pr ((getV e1 i).bind fun a => remD a d) e1) fun r e2 => some (.ok .nx, e2.set i (some r)) := by rw [denS]
@[simp] theorem s_stx (i : Nat) (k x : E) (e : Envd) : denS G (.stx i k x) e = bnd (denE G x e) fun d e1 => bnd (pr (getV e1 i) e1) fun _ _ => bnd (denE G k e1) fun y e2 => bnd (pr ((getV e2 i).bind fun l => stD l y d) e2) fun r e3 => some (.ok .nx, e3.set i (some r)) := by rw [denS]
@[simp] theorem s_ex (x : E) (e : Envd) : denS G (.ex x) e = bnd (denE G x e) fun _ e1 => some (.ok .nx, e1) := by rw [denS]
@[simp] theorem s_ifs (c : E) (a b : List Sm) (e : Envd) : denS G (.ifs c a b) e = bnd (tst (denE G c e)) fun k e1 => if k = true then denSs G a e1 else denSs G b e1 := by rw [denS]
@[simp] theorem s_ifz (Z : List Nat) (c : E) (a b : List Sm) (e : Envd) : denS G (.ifz Z c a b) e = if lstsE e Z = true then match tst (denE G c e) with
    | none => none
    | some (.error y, _) => some (.error y, e)
    | some (.ok k, _) => if k = true then denSs G a e else denSs G b e
    else none := by first | (rw [denS]; rfl) | rw [denS]
@[simp] theorem s_fr (t : Tg) (it : It) (b : List Sm) (e : Envd) : denS G (.fr t it b) e = bnd (denIt G it e) fun ds e1 => frD G t b ds e1 := by first | (rw [denS]; rfl) | rw [denS]
@[simp] theorem s_wh (c : E) (b : List Sm) (e : Envd) : denS G (.wh c b) e = whD G c b e := by first | (rw [denS]; rfl) | rw [denS]
theorem whD_turn (c : E) (b : List Sm) (e : Envd) : whD G c b e = bnd (tst (denE G c e)) fun k e1 => if k = true then bnd (denSs G b e1) fun f e2 => match f with
    | .nx => whD G c b e2
    | .ct => whD G c b e2
    | .bk => some (.ok .nx, e2)
    | .rt d => some (.ok (.rt d), e2)
  else some (.ok .nx, e1) := whL_turn e
@[simp] theorem s_ret (Z : List Nat) (x : E) (e : Envd) : denS G (.ret Z x) e = if lstsE e Z = true then bnd (denE G x e) fun d e1 => some (.ok (.rt d), e1) else none := by rw [denS]
@[simp] theorem s_retN (e : Envd) : denS G .retN e = some (.ok (.rt .non), e) := by rw [denS]
@[simp] theorem s_retO (i : Nat) (e : Envd) : denS G (.retO i) e = bnd (pr (getV e i) e) fun d e1 => match d with
    | .lst ds => some (.ok (.rt (.lst ds)), e1)
    | _ => none := by first | (rw [denS]; rfl) | rw [denS]
@[simp] theorem s_rse (j : Nat) (e : Envd) : denS G (.rse j) e = some (.error ⟨j, none⟩, e) := by rw [denS]
@[simp] theorem s_brk (e : Envd) : denS G .brk e = some (.ok .bk, e) := by rw [denS]
@[simp] theorem s_cnt (e : Envd) : denS G .cnt e = some (.ok .ct, e) := by rw [denS]
@[simp] theorem s_pass (e : Envd) : denS G .pass e = some (.ok .nx, e) := by rw [denS]
@[simp] theorem ss_nil (e : Envd) : denSs G [] e = some (.ok .nx, e) := by rw [denSs]
@[simp] theorem ss_cons (s : Sm) (ss : List Sm) (e : Envd) : denSs G (s :: ss) e = bnd (denS G s e) fun f e1 => match f with
    | .nx => denSs G ss e1
    | .rt d => some (.ok (.rt d), e1)
    | .bk => some (.ok .bk, e1)
    | .ct => some (.ok .ct, e1) := by first | (rw [denSs]; rfl) | rw [denSs]
@[simp] theorem p_nil (e : Envd) : denPar G [] e = some (.ok [], e) := rfl
@[simp] theorem p_val (i : Nat) (x : E) (r : List (Nat × Bool × E)) (e : Envd) : denPar G ((i, false, x) :: r) e = bnd (denE G x e) fun d e1 => bnd (denPar G r e1) fun ds e2 => some (.ok (d :: ds), e2) := rfl
@[simp] theorem p_own (i : Nat) (x : E) (r : List (Nat × Bool × E)) (e : Envd) : denPar G ((i, true, x) :: r) e = match denE G x e with
    | none => none
    | some (.error y, _) => some (.error y, e)
    | some (.ok d, _) => if isOb d = true then bnd (denPar G r e) fun ds e2 => some (.ok (d :: ds), e2) else none := rfl
@[simp] theorem ps_nil (e : Envd) (ds : List D) : parS [] ds e = e := by cases ds <;> rfl
@[simp] theorem ps_cons (i : Nat) (o : Bool × E) (r : List (Nat × Bool × E)) (d : D) (ds : List D) (e : Envd) : parS ((i, o) :: r) (d :: ds) e = parS r ds (e.set i (some d)) := rfl
@[simp] theorem lstsE_nil (e : Envd) : lstsE e [] = true := rfl
@[simp] theorem f_nil (t : Tg) (b : List Sm) (e : Envd) : frD G t b [] e = some (.ok .nx, e) := rfl
theorem f_turn (t : Tg) (b : List Sm) (d : D) (ds : List D) (e : Envd) : frD G t b (d :: ds) e = match asgT t d e with
  | none => none
  | some e1 => bnd (denSs G b e1) fun f e2 => match f with
    | .nx => frD G t b ds e2
    | .ct => frD G t b ds e2
    | .bk => some (.ok .nx, e2)
    | .rt d => some (.ok (.rt d), e2) := by
  unfold frD
  rw [forL]
  cases asgT t d e with
  | none => rfl
  | some e1 =>
    simp only
    cases denSs G b e1 with
    | none => rfl
    | some o =>
      obtain ⟨r, e2⟩ := o
      cases r with
      | error x => rfl
      | ok f => cases f <;> rfl
/-- a loop whose body goes on: an invariant -/
theorem f_inv {t : Tg} {b : List Sm} {α : Type} {enc : α → D} (P : List α → Envd → Prop) (step : ∀ x xs e, P (x :: xs) e → ∃ e1 e2, asgT t (enc x) e = some e1 ∧ (denSs G b e1 = some (.ok .nx, e2) ∨ denSs G b e1 = some (.ok .ct, e2)) ∧ P xs e2) :
    ∀ (xs : List α) (e : Envd), P xs e → ∃ e', frD G t b (xs.map enc) e = some (.ok .nx, e') ∧ P [] e'
  | [], e, h => ⟨e, rfl, h⟩
  | x :: xs, e, h => by
    obtain ⟨e1, e2, h1, h2, h3⟩ := step x xs e h
    obtain ⟨e', h4, h5⟩ := f_inv P step xs e2 h3
    refine ⟨e', ?_, h5⟩
    rw [List.map_cons, f_turn, h1]
    rcases h2 with h2 | h2 <;> (simp only [h2, bnd_ok]; exact h4)
/-- a comprehension over items: what each turn gives, nothing else changed -/
theorem compL_map {own : List Nat} {asg : D → Envd → Option Envd} {cond : Envd → Rs Bool} {elt : Envd → Rs D} {α : Type} {enc : α → D} {p : α → Bool} {f : α → D} {Pe : Envd → Prop}
    (step : ∀ x e, Pe e → ∃ e1 e2, asg (enc x) (wipeE e own) = some e1 ∧ cond e1 = some (.ok (p x), e2) ∧ (p x = false → Pe e2) ∧ (p x = true → ∃ e3, elt e2 = some (.ok (f x), e3) ∧ Pe e3)) :
    ∀ (xs : List α) (e : Envd), Pe e → ∃ e', compL own asg cond elt (xs.map enc) e = some ((xs.filter p).map f, e') ∧ Pe e'
  | [], e, h => ⟨e, rfl, h⟩
  | x :: xs, e, h => by
    obtain ⟨e1, e2, h1, h2, h3, h4⟩ := step x e h
    rw [List.map_cons, compL, h1]
    simp only [h2]
    cases hp : p x with
    | false =>
      obtain ⟨e', g1, g2⟩ := compL_map step xs e2 (h3 hp)
      exact ⟨e', by simp only [g1, List.filter_cons, hp, Bool.false_eq_true, if_false], g2⟩
    | true =>
      obtain ⟨e3, k1, k2⟩ := h4 hp
      obtain ⟨e', g1, g2⟩ := compL_map step xs e3 k2
      exact ⟨e', by simp only [k1, g1, List.filter_cons, hp, if_true, List.map_cons], g2⟩
theorem cm_map {elt : E} {t : Tg} {cs : Es} {own : List Nat} {α : Type} {enc : α → D} {p : α → Bool} {f : α → D} {Pe : Envd → Prop}
    (step : ∀ x e, Pe e → ∃ e1 e2, asgT t (enc x) (wipeE e own) = some e1 ∧ denCs G cs e1 = some (.ok (p x), e2) ∧ (p x = false → Pe e2) ∧ (p x = true → ∃ e3, denE G elt e2 = some (.ok (f x), e3) ∧ Pe e3)) (xs : List α) (e : Envd) (h : Pe e) :
    ∃ e', cmD G elt t cs own (xs.map enc) e = some ((xs.filter p).map f, e') ∧ Pe e' := compL_map step xs e h
end Rf

set_option maxRecDepth 100000
set_option maxHeartbeats 2000000
/-! P0: plain lemmas over D: equality, membership, slices, walks, comprehensions. -/
namespace Rf
open PySem PySem.Spec PyProof.Rows L2

def mkG (fl : List FnV) (gl : List D) : Gam := { fn := fun j => fl.getD j (fun _ _ => none), gc := fun j => gl[j]? }
@[simp] theorem mkG_z (f : FnV) (fl : List FnV) (gl : List D) : (mkG (f :: fl) gl).fn 0 = f := rfl
@[simp] theorem mkG_s (f : FnV) (fl : List FnV) (gl : List D) (n : Nat) : (mkG (f :: fl) gl).fn (n + 1) = (mkG fl gl).fn n := by simp [mkG]
@[simp] theorem mkG_gz (fl : List FnV) (d : D) (gl : List D) : (mkG fl (d :: gl)).gc 0 = some d := rfl
@[simp] theorem mkG_gs (fl : List FnV) (d : D) (gl : List D) (n : Nat) : (mkG fl (d :: gl)).gc (n + 1) = (mkG fl gl).gc n := by simp [mkG]
/-- the name of a refusal without a field -/
def trX (exs : List Str) : Exc → Option Str := fun y => match y.fld with
  | none => (exs[y.cls]?).map fun x => x ++ ("+" : Str)
  | some _ => none
def mkGt (exs : List Str) (fl : List FnV) (gl : List D) : Gam := { mkG fl gl with tr := trX exs }
@[simp] theorem mkGt_fn (exs : List Str) (fl : List FnV) (gl : List D) : (mkGt exs fl gl).fn = (mkG fl gl).fn := rfl
@[simp] theorem mkGt_gc (exs : List Str) (fl : List FnV) (gl : List D) : (mkGt exs fl gl).gc = (mkG fl gl).gc := rfl
@[simp] theorem mkGt_tr (exs : List Str) (fl : List FnV) (gl : List D) : (mkGt exs fl gl).tr = trX exs := rfl
/-! ### equality -/
@[simp] theorem eq_ii (i j : Int) : eqD (.int i) (.int j) = decide (i = j) := by
  simp only [eqD, toPD, PyData.eqv]
  exact Bool.beq_eq_decide_eq i j
@[simp] theorem eq_ss (i j : Str) : eqD (.str i) (.str j) = decide (i = j) := by
  simp only [eqD, toPD, PyData.eqv]
  exact Bool.beq_eq_decide_eq i j
@[simp] theorem eq_nn : eqD .non .non = true := by simp [eqD, toPD, PyData.eqv]
@[simp] theorem eq_nt (l : List D) : eqD .non (.tup l) = false := by simp [eqD, toPD, PyData.eqv]
@[simp] theorem eq_tn (l : List D) : eqD (.tup l) .non = false := by simp [eqD, toPD, PyData.eqv]
@[simp] theorem eq_bb (a b : Bool) : eqD (.bl a) (.bl b) = decide (a = b) := by
  simp only [eqD, toPD, PyData.eqv]
  exact Bool.beq_eq_decide_eq a b
@[simp] theorem eq_lt (a b : List D) : eqD (.lst a) (.tup b) = false := by simp [eqD, toPD, PyData.eqv]
def eqL : List D → List D → Bool
  | [], [] => true
  | x :: xs, y :: ys => eqD x y && eqL xs ys
  | _, _ => false
theorem eqvAll_L : ∀ a b : List D, PyData.eqvAll (toPDs a) (toPDs b) = eqL a b
  | [], [] => by simp [toPDs, PyData.eqvAll, eqL]
  | [], _ :: _ => by simp [toPDs, PyData.eqvAll, eqL]
  | _ :: _, [] => by simp [toPDs, PyData.eqvAll, eqL]
  | x :: xs, y :: ys => by simp only [toPDs, PyData.eqvAll, eqL, eqvAll_L xs ys]; rfl
@[simp] theorem eq_tt (a b : List D) : eqD (.tup a) (.tup b) = eqL a b := by
  simp only [eqD, toPD, PyData.eqv]; exact eqvAll_L a b
@[simp] theorem eq_ll (a b : List D) : eqD (.lst a) (.lst b) = eqL a b := by
  simp only [eqD, toPD, PyData.eqv]; exact eqvAll_L a b
@[simp] theorem eqL_nn : eqL [] [] = true := rfl
@[simp] theorem eqL_cn (a : D) (r : List D) : eqL (a :: r) [] = false := rfl
@[simp] theorem eqL_nc (a : D) (r : List D) : eqL [] (a :: r) = false := rfl
@[simp] theorem eqL_cc (a b : D) (r s : List D) : eqL (a :: r) (b :: s) = (eqD a b && eqL r s) := rfl
theorem eqL_nil (a : List D) : eqL a [] = a.isEmpty := by cases a <;> rfl
theorem eqL_map {α β : Type} [DecidableEq α] {f : α → D} (hf : ∀ a b, eqD (f a) (f b) = decide (a = b)) : ∀ a b : List α, eqL (a.map f) (b.map f) = decide (a = b)
  | [], [] => by simp
  | [], _ :: _ => by simp
  | _ :: _, [] => by simp
  | x :: xs, y :: ys => by
    rw [List.map_cons, List.map_cons, eqL_cc, hf, eqL_map (β := β) hf xs ys, ← Bool.decide_and]
    congr 1
    simp
/-! ### it can be compared -/
@[simp] theorem lay_i (i : Int) : lay (.int i) = true := rfl
@[simp] theorem lay_b (i : Bool) : lay (.bl i) = true := rfl
@[simp] theorem lay_n : lay .non = true := rfl
@[simp] theorem lay_s (s : Str) : lay (.str s) = PyData.strOk s := rfl
@[simp] theorem lay_t (l : List D) : lay (.tup l) = layL l := rfl
@[simp] theorem lay_l (l : List D) : lay (.lst l) = layL l := rfl
@[simp] theorem layL_n : layL [] = true := rfl
@[simp] theorem layL_c (a : D) (l : List D) : layL (a :: l) = (lay a && layL l) := rfl
theorem layL_all : ∀ l : List D, layL l = l.all lay
  | [] => rfl
  | a :: l => by rw [layL_c, layL_all l]; rfl
@[simp] theorem dep_i (i : Int) : dep (.int i) = 0 := by simp [dep, toPD, PyData.depth]
@[simp] theorem dep_b (i : Bool) : dep (.bl i) = 0 := by simp [dep, toPD, PyData.depth]
@[simp] theorem dep_n : dep .non = 0 := by simp [dep, toPD, PyData.depth]
@[simp] theorem dep_s (s : Str) : dep (.str s) = 0 := by simp [dep, toPD, PyData.depth]
@[simp] theorem dep_t (l : List D) : dep (.tup l) = depL l + 1 := by simp [dep, depL, toPD, PyData.depth]
@[simp] theorem dep_l (l : List D) : dep (.lst l) = depL l + 1 := by simp [dep, depL, toPD, PyData.depth]
@[simp] theorem depL_n : depL [] = 0 := by simp [depL, toPDs, PyData.depthAll]
@[simp] theorem depL_c (a : D) (l : List D) : depL (a :: l) = max (dep a) (depL l) := by simp [dep, depL, toPDs, PyData.depthAll]
theorem depL_le {n : Nat} : ∀ {l : List D}, (∀ d ∈ l, dep d ≤ n) → depL l ≤ n
  | [], _ => by simp
  | a :: l, h => by
    rw [depL_c]
    exact Nat.max_le.mpr ⟨h a List.mem_cons_self, depL_le fun d hd => h d (List.mem_cons_of_mem _ hd)⟩
theorem okEq_of {a b : D} (h1 : lay a = true) (h2 : lay b = true) (h3 : dep a ≤ 100 ∨ dep b ≤ 100) : okEq a b = true := by
  unfold okEq
  rw [h1, h2]
  simp only [Bool.and_self, Bool.true_and, decide_eq_true_eq]
  omega
theorem okIn_of {l : List D} {d : D} (h1 : ∀ x ∈ l, lay x = true) (h2 : lay d = true) (h3 : dep d ≤ 100) : okIn l d = true := by
  unfold okIn
  rw [layL_all, List.all_eq_true.mpr h1, h2]
  simp only [Bool.and_self, Bool.true_and, decide_eq_true_eq]
  omega
theorem anyEq_map {α : Type} [DecidableEq α] {f : α → D} (hf : ∀ a b, eqD (f a) (f b) = decide (a = b)) (l : List α) (x : α) : anyEq (l.map f) (f x) = decide (x ∈ l) := by
  unfold anyEq
  rw [List.any_map]
  induction l with
  | nil => simp
  | cons a l ih =>
    rw [List.any_cons, ih]
    simp only [Function.comp, hf, List.mem_cons]
    rw [← Bool.decide_or]
    congr 1
    simp [eq_comm]
/-- membership in a list | a tuple -/
theorem in_lst {α : Type} [DecidableEq α] {f : α → D} (hf : ∀ a b, eqD (f a) (f b) = decide (a = b)) {l : List α} {x : α} (h1 : ∀ y ∈ l, lay (f y) = true) (h2 : lay (f x) = true) (h3 : dep (f x) ≤ 100) [Decidable (x ∈ l)] : inD (f x) (.lst (l.map f)) = some (decide (x ∈ l)) := by
  have h : okIn (l.map f) (f x) = true := okIn_of (fun y hy => by obtain ⟨z, hz, rfl⟩ := List.mem_map.mp hy; exact h1 z hz) h2 h3
  show (if okIn (l.map f) (f x) = true then some (anyEq (l.map f) (f x)) else none) = _
  rw [if_pos h, anyEq_map hf]
  congr
theorem in_tup {α : Type} [DecidableEq α] {f : α → D} (hf : ∀ a b, eqD (f a) (f b) = decide (a = b)) {l : List α} {x : α} (h1 : ∀ y ∈ l, lay (f y) = true) (h2 : lay (f x) = true) (h3 : dep (f x) ≤ 100) [Decidable (x ∈ l)] : inD (f x) (.tup (l.map f)) = some (decide (x ∈ l)) := by
  have h : okIn (l.map f) (f x) = true := okIn_of (fun y hy => by obtain ⟨z, hz, rfl⟩ := List.mem_map.mp hy; exact h1 z hz) h2 h3
  show (if okIn (l.map f) (f x) = true then some (anyEq (l.map f) (f x)) else none) = _
  rw [if_pos h, anyEq_map hf]
  congr
/-! ### slices, items -/
theorem cut_to {α : Type} (xs : List α) (i : Nat) : cutD xs none (some (i : Int)) = xs.take i := by
  unfold cutD
  rw [HT.sIx_none, HT.sIx_nat, List.drop_zero, Nat.sub_zero]
  rcases Nat.le_total i xs.length with h | h
  · rw [Nat.min_eq_left h]
  · rw [Nat.min_eq_right h, List.take_of_length_le (Nat.le_refl _), List.take_of_length_le h]
theorem cut_from {α : Type} (xs : List α) (i : Nat) : cutD xs (some (i : Int)) none = xs.drop i := by
  unfold cutD
  rw [HT.sIx_none, HT.sIx_nat]
  rcases Nat.le_total i xs.length with h | h
  · rw [Nat.min_eq_left h, List.take_of_length_le (by rw [List.length_drop]; omega)]
  · rw [Nat.min_eq_right h, List.drop_of_length_le (Nat.le_refl _), List.drop_of_length_le h]
    simp
theorem at_nat {α : Type} (xs : List α) (i : Nat) : L2.atI xs (i : Int) = xs[i]? := by
  unfold L2.atI L2.ixN
  rw [if_pos (by omega)]
  by_cases h : i < xs.length
  · rw [if_pos (by omega)]; simp
  · rw [if_neg (by omega), List.getElem?_eq_none (by omega)]; rfl
/-! ### the walks over what is made of items -/
theorem zipF_zip : ∀ {α β : Type} (f : α → D) (g : β → D) (a : List α) (b : List β), zipF (a.map f) (b.map g) = (a.zip b).map fun p => .tup [f p.1, g p.2]
  | _, _, _, _, [], _ => by simp [zipF]
  | _, _, _, _, _ :: _, [] => by simp [zipF]
  | _, _, f, g, x :: a, y :: b => by simp [zipF, zipF_zip f g a b]
theorem enumF_eq : ∀ {α : Type} (f : α → D) (k : Nat) (a : List α), enumF k (a.map f) = (a.zipIdx k).map fun p => .tup [.int p.2, f p.1]
  | _, _, _, [] => rfl
  | _, f, k, x :: a => by simp [enumF, enumF_eq f (k + 1) a]
theorem rngF_eq : ∀ (lo : Int) (n : Nat), rngF lo n = (List.range n).map fun i => .int (lo + i)
  | _, 0 => rfl
  | lo, n + 1 => by
    rw [rngF, rngF_eq (lo + 1) n, List.range_succ_eq_map, List.map_cons, List.map_map]
    congr 1
    · simp
    · apply List.map_congr_left
      intro i _
      simp only [Function.comp, D.int.injEq]
      omega
/-! ### a comprehension that changes nothing -/
theorem wipe_len : ∀ (own : List Nat) (e : Envd), (wipeE e own).length = e.length
  | [], _ => rfl
  | v :: vs, e => by rw [wipeE, List.length_set, wipe_len vs e]
theorem wipe_get : ∀ (own : List Nat) (e : Envd) (i : Nat), (wipeE e own)[i]? = if i ∈ own then (if i < e.length then some none else none) else e[i]?
  | [], e, i => by simp [wipeE]
  | v :: vs, e, i => by
    rw [wipeE, List.getElem?_set, wipe_len, wipe_get vs e i]
    by_cases h : v = i
    · subst h
      simp
    · have h2 : ¬ i = v := fun z => h z.symm
      simp [h, h2]
theorem back_len : ∀ (own : List Nat) (e0 e : Envd), (backE e0 e own).length = e.length
  | [], _, _ => rfl
  | v :: vs, e0, e => by rw [backE, List.length_set, back_len vs e0 e]
theorem back_get : ∀ (own : List Nat) (e0 e : Envd) (i : Nat), (backE e0 e own)[i]? = if i ∈ own then (if i < e.length then some (getV e0 i) else none) else e[i]?
  | [], e0, e, i => by simp [backE]
  | v :: vs, e0, e, i => by
    rw [backE, List.getElem?_set, back_len, back_get vs e0 e i]
    by_cases h : v = i
    · subst h
      simp
    · have h2 : ¬ i = v := fun z => h z.symm
      simp [h, h2]
theorem back_of_wipe {own : List Nat} {e e' : Envd} (h : wipeE e' own = wipeE e own) : backE e e' own = e := by
  have hl : e'.length = e.length := by rw [← wipe_len own e', h, wipe_len]
  apply List.ext_getElem?
  intro i
  rw [back_get]
  by_cases hi : i ∈ own
  · rw [if_pos hi]
    by_cases hl2 : i < e.length
    · rw [if_pos (by omega)]
      unfold getV
      rw [List.getElem?_eq_getElem hl2]
    · rw [if_neg (by omega), List.getElem?_eq_none (by omega)]
  · rw [if_neg hi]
    have h1 := wipe_get own e' i
    have h2 := wipe_get own e i
    rw [if_neg hi] at h1 h2
    rw [← h1, ← h2, h]
theorem compL_eq {own : List Nat} {asg : D → Envd → Option Envd} {cond : Envd → Rs Bool} {elt : Envd → Rs D} {α : Type} {enc : α → D} {e0 : Envd} (env : α → Envd) (p : α → Bool) (f : α → D) :
    ∀ (xs : List α) (e : Envd), wipeE e own = e0 → (∀ x ∈ xs, asg (enc x) e0 = some (env x)) → (∀ x ∈ xs, cond (env x) = some (.ok (p x), env x)) → (∀ x ∈ xs, p x = true → elt (env x) = some (.ok (f x), env x)) → (∀ x ∈ xs, wipeE (env x) own = e0) →
      ∃ e', compL own asg cond elt (xs.map enc) e = some ((xs.filter p).map f, e') ∧ wipeE e' own = e0
  | [], e, h, _, _, _, _ => ⟨e, rfl, h⟩
  | x :: xs, e, h, h1, h2, h3, h4 => by
    obtain ⟨e', g1, g2⟩ := compL_eq env p f xs (env x) (h4 x List.mem_cons_self) (fun y hy => h1 y (List.mem_cons_of_mem _ hy)) (fun y hy => h2 y (List.mem_cons_of_mem _ hy)) (fun y hy => h3 y (List.mem_cons_of_mem _ hy)) (fun y hy => h4 y (List.mem_cons_of_mem _ hy))
    refine ⟨e', ?_, g2⟩
    rw [List.map_cons, compL, h, h1 x List.mem_cons_self]
    simp only [h2 x List.mem_cons_self]
    cases hp : p x with
    | false => simp only [g1, List.filter_cons, hp, Bool.false_eq_true, if_false]
    | true => simp only [h3 x List.mem_cons_self hp, g1, List.filter_cons, hp, if_true, List.map_cons]
variable {G : Gam}
/-- [elt for tg in it if cs], nothing else changed by it -/
theorem comp_eq {elt : E} {t : Tg} {it : It} {cs : Es} {own : List Nat} {α : Type} {enc : α → D} {e : Envd} {xs : List α} (env : α → Envd) (p : α → Bool) (f : α → D)
    (hit : denIt G it e = some (.ok (xs.map enc), e)) (ha : ∀ x ∈ xs, asgT t (enc x) (wipeE e own) = some (env x)) (hc : ∀ x ∈ xs, denCs G cs (env x) = some (.ok (p x), env x))
    (he : ∀ x ∈ xs, p x = true → denE G elt (env x) = some (.ok (f x), env x)) (hx : ∀ x ∈ xs, wipeE (env x) own = wipeE e own) :
    denE G (.comp elt t it cs own) e = some (.ok (.lst ((xs.filter p).map f)), e) := by
  obtain ⟨e', g1, g2⟩ := compL_eq (own := own) (asg := asgT t) (cond := denCs G cs) (elt := denE G elt) (enc := enc) env p f xs e rfl ha hc he hx
  rw [d_comp, hit, bnd_ok]
  unfold cmD
  rw [g1]
  simp only
  rw [back_of_wipe g2]
/-- without a condition -/
theorem comp_eq0 {elt : E} {t : Tg} {it : It} {own : List Nat} {α : Type} {enc : α → D} {e : Envd} {xs : List α} (env : α → Envd) (f : α → D)
    (hit : denIt G it e = some (.ok (xs.map enc), e)) (ha : ∀ x ∈ xs, asgT t (enc x) (wipeE e own) = some (env x))
    (he : ∀ x ∈ xs, denE G elt (env x) = some (.ok (f x), env x)) (hx : ∀ x ∈ xs, wipeE (env x) own = wipeE e own) :
    denE G (.comp elt t it .nil own) e = some (.ok (.lst (xs.map f)), e) := by
  have h := comp_eq (G := G) (elt := elt) (t := t) (it := it) (cs := .nil) (own := own) (enc := enc) (e := e) (xs := xs) env (fun _ => true) f hit ha (fun _ _ => rfl) (fun x hx _ => he x hx) hx
  rw [List.filter_eq_self.mpr (fun _ _ => rfl)] at h
  exact h
/-- a loop whose body goes on, over items: step by step -/
theorem fr_fold {t : Tg} {b : List Sm} {α β : Type} {enc : α → D} (I : β → Envd → Prop) (g : β → α → β) :
    ∀ (xs : List α) (s : β) (e : Envd), I s e → (∀ s e x, x ∈ xs → I s e → ∃ e1 e2, asgT t (enc x) e = some e1 ∧ (denSs G b e1 = some (.ok .nx, e2) ∨ denSs G b e1 = some (.ok .ct, e2)) ∧ I (g s x) e2) →
      ∃ e', frD G t b (xs.map enc) e = some (.ok .nx, e') ∧ I (xs.foldl g s) e'
  | [], s, e, h, _ => ⟨e, rfl, h⟩
  | x :: xs, s, e, h, step => by
    obtain ⟨e1, e2, h1, h2, h3⟩ := step s e x List.mem_cons_self h
    obtain ⟨e', h4, h5⟩ := fr_fold I g xs (g s x) e2 h3 fun s e y hy => step s e y (List.mem_cons_of_mem _ hy)
    refine ⟨e', ?_, h5⟩
    rw [List.map_cons, f_turn, h1]
    rcases h2 with h2 | h2 <;> (simp only [h2, bnd_ok]; exact h4)
end Rf

set_option maxRecDepth 100000
set_option maxHeartbeats 2000000
/-! N0: marks, shelves, houses as plain types; their order. -/
namespace Rf
open PySem PySem.Spec PyProof.Rows L2

abbrev M := Int × Int
def dM (m : M) : D := .tup [.int m.1, .int m.2]
def dO : Option M → D
  | none => .non
  | some m => dM m
@[simp] theorem dO_n : dO none = .non := rfl
@[simp] theorem dO_s (m : M) : dO (some m) = dM m := rfl
def dP (p : M × M) : D := .tup [dM p.1, dM p.2]
abbrev An := Str × Int
def dA (a : An) : D := .tup [.str a.1, .int a.2]
structure Sh where
  nm : Str
  tk : List Str
  sl : List (Option M)
  deriving DecidableEq
structure Ho where
  sh : List Sh
  ps : Int
  cs : List Str
  deriving DecidableEq
def dSl (sl : List (Option M)) : D := .tup (sl.map dO)
def dSh (s : Sh) : D := .tup [.str s.nm, .tup (s.tk.map .str), .tup (s.sl.map dO)]
def dH (h : Ho) : D := .tup [.tup (h.sh.map dSh), .int h.ps, .tup (h.cs.map .str)]

theorem eq_dM (a b : M) : eqD (dM a) (dM b) = decide (a = b) := by
  obtain ⟨a1, a2⟩ := a
  obtain ⟨b1, b2⟩ := b
  simp [dM, ← Bool.decide_and]
theorem eq_dA (a b : An) : eqD (dA a) (dA b) = decide (a = b) := by
  obtain ⟨a1, a2⟩ := a
  obtain ⟨b1, b2⟩ := b
  simp [dA, ← Bool.decide_and]
theorem eq_dP (a b : M × M) : eqD (dP a) (dP b) = decide (a = b) := by
  obtain ⟨a1, a2⟩ := a
  obtain ⟨b1, b2⟩ := b
  simp [dP, eq_dM, ← Bool.decide_and]
theorem eq_dO (a b : Option M) : eqD (dO a) (dO b) = decide (a = b) := by
  cases a <;> cases b <;> simp [eq_dM]
  · simp [dM]
  · simp [dM]
@[simp] theorem lay_dM (m : M) : lay (dM m) = true := by simp [dM]
@[simp] theorem dep_dM (m : M) : dep (dM m) = 1 := by simp [dM]
@[simp] theorem lay_dO (m : Option M) : lay (dO m) = true := by cases m <;> simp
@[simp] theorem lay_dP (p : M × M) : lay (dP p) = true := by simp [dP]
@[simp] theorem dep_dP (p : M × M) : dep (dP p) = 2 := by simp [dP]
@[simp] theorem lay_dA (a : An) : lay (dA a) = PyData.strOk a.1 := by simp [dA]
@[simp] theorem dep_dA (a : An) : dep (dA a) = 1 := by simp [dA]

/-! ### the order of fractions -/
def lt (a b : M) : Bool := decide (a.1 * b.2 < b.1 * a.2)
/-- ends and marks: lowest terms, from 0 to 1 -/
structure OkE (m : M) : Prop where
  a : 0 ≤ m.1
  b : m.1 ≤ m.2
  c : 0 < m.2
  d : m.2 < 10 ^ 40
  g : Int.gcd m.1 m.2 = 1
structure OkM (m : M) : Prop extends OkE m where
  p : 0 < m.1
  q : m.1 < m.2
theorem lt_iff {a b : M} : lt a b = true ↔ a.1 * b.2 < b.1 * a.2 := decide_eq_true_iff
theorem lt_irr (a : M) : lt a a = false := by simp [lt]
theorem lt_asym {a b : M} (h : lt a b = true) : lt b a = false := by
  rw [lt_iff] at h
  unfold lt
  exact decide_eq_false (by omega)
theorem lt_tr {a b c : M} (ha : 0 < a.2) (hb : 0 < b.2) (hc : 0 < c.2) (h1 : lt a b = true) (h2 : lt b c = true) : lt a c = true := by
  rw [lt_iff] at h1 h2 ⊢
  have e1 := Int.mul_lt_mul_of_pos_right h1 hc
  have e2 := Int.mul_lt_mul_of_pos_right h2 ha
  have e3 : a.1 * c.2 * b.2 < c.1 * a.2 * b.2 := by
    calc a.1 * c.2 * b.2 = a.1 * b.2 * c.2 := by ac_rfl
      _ < b.1 * a.2 * c.2 := e1
      _ = b.1 * c.2 * a.2 := by ac_rfl
      _ < c.1 * b.2 * a.2 := e2
      _ = c.1 * a.2 * b.2 := by ac_rfl
  exact Int.lt_of_mul_lt_mul_right e3 (by omega)
theorem cop_dvd {a b c : Int} (h : a ∣ b * c) (g : Int.gcd b a = 1) : a ∣ c := by
  rw [← Int.natAbs_dvd_natAbs, Int.natAbs_mul] at h
  rw [← Int.natAbs_dvd_natAbs]
  exact Nat.Coprime.dvd_of_dvd_mul_left (by rw [Nat.coprime_comm]; exact g) h
theorem eq_of_cross {a b : M} (ha : 0 < a.2) (hb : 0 < b.2) (ga : Int.gcd a.1 a.2 = 1) (gb : Int.gcd b.1 b.2 = 1) (h : a.1 * b.2 = b.1 * a.2) : a = b := by
  have d1 : a.2 ∣ b.2 := by
    have : a.2 ∣ a.1 * b.2 := ⟨b.1, by rw [h]; ac_rfl⟩
    exact cop_dvd this ga
  have d2 : b.2 ∣ a.2 := by
    have : b.2 ∣ b.1 * a.2 := ⟨a.1, by rw [← h]; ac_rfl⟩
    exact cop_dvd this gb
  have e2 : a.2 = b.2 := Int.dvd_antisymm (by omega) (by omega) d1 d2
  rw [e2] at h
  have e1 : a.1 = b.1 := Int.eq_of_mul_eq_mul_right (by omega) h
  exact Prod.ext e1 e2
theorem lt_tri {a b : M} (ha : OkE a) (hb : OkE b) (h : a ≠ b) : lt a b = !lt b a := by
  by_cases h1 : a.1 * b.2 < b.1 * a.2
  · rw [lt_iff.mpr h1, lt_asym (lt_iff.mpr h1)]
    rfl
  · by_cases h2 : b.1 * a.2 < a.1 * b.2
    · rw [lt_iff.mpr h2, lt_asym (lt_iff.mpr h2)]
      rfl
    · exact absurd (eq_of_cross ha.c hb.c ha.g hb.g (by omega)) h
theorem okE_0 : OkE (0, 1) := ⟨by decide, by decide, by decide, by decide, by decide⟩
theorem okE_1 : OkE (1, 1) := ⟨by decide, by decide, by decide, by decide, by decide⟩
theorem lt_0 {m : M} (h : OkM m) : lt (0, 1) m = true := by rw [lt_iff]; have := h.p; simp; omega
theorem lt_1 {m : M} (h : OkM m) : lt m (1, 1) = true := by rw [lt_iff]; have := h.q; simp; omega

/-! ### lowest terms -/
def red (t b : Int) : M := (t / Int.gcd t b, b / Int.gcd t b)
theorem gcd_pos {t b : Int} (hb : 0 < b) : 0 < (Int.gcd t b : Int) := by
  have := Int.gcd_pos_of_ne_zero_right t (show b ≠ 0 by omega)
  omega
theorem red_mul {t b : Int} : (red t b).1 * Int.gcd t b = t ∧ (red t b).2 * Int.gcd t b = b :=
  ⟨Int.ediv_mul_cancel (Int.gcd_dvd_left t b), Int.ediv_mul_cancel (Int.gcd_dvd_right t b)⟩
theorem red_pos {t b : Int} (hb : 0 < b) : 0 < (red t b).2 := by
  have h := (red_mul (t := t) (b := b)).2
  have g := gcd_pos (t := t) hb
  rcases Int.lt_or_le 0 (red t b).2 with h1 | h1
  · exact h1
  · have := Int.mul_nonpos_of_nonpos_of_nonneg h1 (Int.le_of_lt g)
    omega
theorem red_gcd {t b : Int} (hb : 0 < b) : Int.gcd (red t b).1 (red t b).2 = 1 := by
  unfold red
  exact Int.gcd_ediv_gcd_ediv_gcd (by have := gcd_pos (t := t) hb; omega)
theorem red_le {t b : Int} (hb : 0 < b) : (red t b).2 ≤ b := by
  have h := (red_mul (t := t) (b := b)).2
  have g := gcd_pos (t := t) hb
  have p := red_pos (t := t) hb
  have : (red t b).2 * 1 ≤ (red t b).2 * Int.gcd t b := Int.mul_le_mul_of_nonneg_left (by omega) (by omega)
  omega
theorem red_lt_right {t b : Int} (hb : 0 < b) (m : M) : lt (red t b) m = decide (t * m.2 < m.1 * b) := by
  obtain ⟨h1, h2⟩ := red_mul (t := t) (b := b)
  have g := gcd_pos (t := t) hb
  unfold lt
  congr 1
  apply propext
  constructor
  · intro h
    have := Int.mul_lt_mul_of_pos_right h g
    calc t * m.2 = (red t b).1 * m.2 * Int.gcd t b := by
          rw [Int.mul_right_comm, h1]
      _ < m.1 * (red t b).2 * Int.gcd t b := this
      _ = m.1 * b := by rw [Int.mul_assoc, h2]
  · intro h
    apply Int.lt_of_mul_lt_mul_right (a := Int.gcd t b) _ (by omega)
    rw [Int.mul_right_comm, h1, Int.mul_assoc, h2]
    exact h
theorem red_lt_left {t b : Int} (hb : 0 < b) (m : M) : lt m (red t b) = decide (m.1 * b < t * m.2) := by
  obtain ⟨h1, h2⟩ := red_mul (t := t) (b := b)
  have g := gcd_pos (t := t) hb
  unfold lt
  congr 1
  apply propext
  constructor
  · intro h
    have := Int.mul_lt_mul_of_pos_right h g
    calc m.1 * b = m.1 * (red t b).2 * Int.gcd t b := by rw [Int.mul_assoc, h2]
      _ < (red t b).1 * m.2 * Int.gcd t b := this
      _ = t * m.2 := by rw [Int.mul_right_comm, h1]
  · intro h
    apply Int.lt_of_mul_lt_mul_right (a := Int.gcd t b) _ (by omega)
    rw [Int.mul_right_comm (red t b).1, h1, Int.mul_assoc, h2]
    exact h
theorem red_ok {t b : Int} (h0 : 0 < t) (h1 : t < b) (h2 : b < 10 ^ 40) : OkM (red t b) := by
  have hb : 0 < b := by omega
  obtain ⟨e1, e2⟩ := red_mul (t := t) (b := b)
  have g := gcd_pos (t := t) hb
  have c := red_pos (t := t) hb
  have l := red_le (t := t) hb
  have p : 0 < (red t b).1 := by
    rcases Int.lt_or_le 0 (red t b).1 with h | h
    · exact h
    · have := Int.mul_nonpos_of_nonpos_of_nonneg h (Int.le_of_lt g)
      omega
  have q : (red t b).1 < (red t b).2 := by
    apply Int.lt_of_mul_lt_mul_right (a := Int.gcd t b) _ (by omega)
    rw [e1, e2]
    exact h1
  exact ⟨⟨by omega, by omega, c, by omega, red_gcd hb⟩, p, q⟩
/-- a mark in the middle of a stretch -/
def mid (s : M × M) : M := red (s.1.1 + s.2.1) (s.1.2 + s.2.2)
theorem mid_between {s : M × M} (h1 : 0 < s.1.2) (h2 : 0 < s.2.2) (h : lt s.1 s.2 = true) : lt s.1 (mid s) = true ∧ lt (mid s) s.2 = true := by
  have hb : 0 < s.1.2 + s.2.2 := by omega
  rw [lt_iff] at h
  constructor
  · unfold mid
    rw [red_lt_left hb, decide_eq_true_iff, Int.mul_add, Int.add_mul]
    omega
  · unfold mid
    rw [red_lt_right hb, decide_eq_true_iff, Int.mul_add, Int.add_mul]
    omega
theorem mid_ok {s : M × M} (h1 : OkE s.1) (h2 : OkE s.2) (h : lt s.1 s.2 = true) (hb : s.1.2 + s.2.2 < 10 ^ 40) : OkM (mid s) := by
  rw [lt_iff] at h
  have a1 := h1.a
  have a2 := h1.b
  have a3 := h1.c
  have b1 := h2.a
  have b2 := h2.b
  have b3 := h2.c
  refine red_ok ?_ ?_ hb
  · rcases Int.lt_or_le 0 (s.1.1 + s.2.1) with z | z
    · exact z
    · have e1 : s.1.1 = 0 := by omega
      have e2 : s.2.1 = 0 := by omega
      rw [e1, e2] at h
      omega
  · rcases Int.lt_or_le (s.1.1 + s.2.1) (s.1.2 + s.2.2) with z | z
    · exact z
    · have e1 : s.1.1 = s.1.2 := by omega
      have e2 : s.2.1 = s.2.2 := by omega
      rw [e1, e2, Int.mul_comm] at h
      omega

/-! ### put into order -/
def insM (l : List M) (m : M) : List M := l.take (l.filter (lt · m)).length ++ m :: l.drop (l.filter (lt · m)).length
def ordM (l : List M) : List M := l.foldl insM []
theorem insM_perm (l : List M) (m : M) : (insM l m).Perm (m :: l) := by
  unfold insM
  have h := List.perm_middle (a := m) (l₁ := l.take (l.filter (lt · m)).length) (l₂ := l.drop (l.filter (lt · m)).length)
  rw [List.take_append_drop] at h
  exact h
theorem ordM_perm' : ∀ (l acc : List M), (l.foldl insM acc).Perm (l ++ acc)
  | [], acc => .refl _
  | m :: l, acc => by
    rw [List.foldl_cons]
    exact (ordM_perm' l (insM acc m)).trans (((insM_perm acc m).append_left l).trans List.perm_middle)
theorem ordM_perm (l : List M) : (ordM l).Perm l := by
  have h := ordM_perm' l []
  rw [List.append_nil] at h
  exact h
abbrev Asc (l : List M) : Prop := l.Pairwise fun a b => lt a b = true
theorem split_at {m : M} : ∀ {l : List M}, (∀ x ∈ l, 0 < x.2) → 0 < m.2 → Asc l →
    (∀ x ∈ l.take (l.filter (lt · m)).length, lt x m = true) ∧ (∀ x ∈ l.drop (l.filter (lt · m)).length, lt x m = false)
  | [], _, _, _ => ⟨fun x h => by simp at h, fun x h => by simp at h⟩
  | a :: l, hp, hm, h => by
    obtain ⟨h1, h2⟩ := List.pairwise_cons.mp h
    have ih := split_at (m := m) (fun x hx => hp x (List.mem_cons_of_mem _ hx)) hm h2
    cases q : lt a m with
    | true =>
      rw [List.filter_cons, q, if_pos rfl]
      refine ⟨fun x hx => ?_, fun x hx => ih.2 x (by simpa using hx)⟩
      have hx' : x ∈ a :: l.take (l.filter (lt · m)).length := by simpa using hx
      rcases List.mem_cons.mp hx' with rfl | hx'
      · exact q
      · exact ih.1 x hx'
    | false =>
      have none_ : (l.filter (lt · m)) = [] := by
        rw [List.filter_eq_nil_iff]
        intro x hx z
        have := lt_tr (hp a List.mem_cons_self) (hp x (List.mem_cons_of_mem _ hx)) hm (h1 x hx) z
        rw [q] at this
        cases this
      rw [List.filter_cons, q, none_]
      simp only [Bool.false_eq_true, if_false, List.length_nil, List.take_zero, List.drop_zero]
      refine ⟨fun x h => by simp at h, fun x hx => ?_⟩
      rcases List.mem_cons.mp hx with rfl | hx
      · exact q
      · cases z : lt x m with
        | false => rfl
        | true =>
          have : x ∈ l.filter (lt · m) := List.mem_filter.mpr ⟨hx, z⟩
          rw [none_] at this
          cases this
theorem insM_asc {l : List M} {m : M} (hl : ∀ x ∈ l, OkE x) (hm : OkE m) (hn : m ∉ l) (h : Asc l) : Asc (insM l m) := by
  obtain ⟨s1, s2⟩ := split_at (m := m) (fun x hx => (hl x hx).c) hm.c h
  unfold insM
  have hd : Asc (l.take (l.filter (lt · m)).length ++ l.drop (l.filter (lt · m)).length) := by rw [List.take_append_drop]; exact h
  obtain ⟨p1, p2, p3⟩ := List.pairwise_append.mp hd
  refine List.pairwise_append.mpr ⟨p1, List.pairwise_cons.mpr ⟨fun x hx => ?_, p2⟩, fun x hx y hy => ?_⟩
  · have hx2 := List.mem_of_mem_drop hx
    have := lt_tri hm (hl x hx2) (fun z => hn (z ▸ hx2))
    rw [this, s2 x hx]
    rfl
  · rcases List.mem_cons.mp hy with rfl | hy
    · exact s1 x hx
    · exact p3 x hx y hy
theorem ordM_asc' : ∀ (l acc : List M), (∀ x ∈ l, OkE x) → (∀ x ∈ acc, OkE x) → (l ++ acc).Nodup → Asc acc → Asc (l.foldl insM acc)
  | [], acc, _, _, _, h => h
  | m :: l, acc, h1, h2, h3, h => by
    rw [List.foldl_cons]
    have nd : (l ++ insM acc m).Nodup := ((((insM_perm acc m).append_left l).trans List.perm_middle).nodup_iff).mpr h3
    refine ordM_asc' l _ (fun x hx => h1 x (List.mem_cons_of_mem _ hx)) (fun x hx => ?_) nd ?_
    · rcases List.mem_cons.mp ((insM_perm acc m).mem_iff.mp hx) with rfl | hx
      · exact h1 _ List.mem_cons_self
      · exact h2 x hx
    · refine insM_asc h2 (h1 m List.mem_cons_self) (fun z => ?_) h
      have := (List.nodup_cons.mp h3).1
      exact this (List.mem_append_right _ z)
theorem ordM_asc {l : List M} (h : ∀ x ∈ l, OkE x) (hn : l.Nodup) : Asc (ordM l) := ordM_asc' l [] h (fun _ z => nomatch z) (by rw [List.append_nil]; exact hn) .nil
theorem ordM_mem {l : List M} {x : M} : x ∈ ordM l ↔ x ∈ l := (ordM_perm l).mem_iff
theorem ordM_len (l : List M) : (ordM l).length = l.length := (ordM_perm l).length_eq
end Rf

set_option maxRecDepth 100000
set_option maxHeartbeats 2000000
/-! N1: gaps, sums, answers; a worst call there always is. -/
namespace Rf
open PySem PySem.Spec PyProof.Rows L2

def mks (sl : List (Option M)) : List M := sl.filterMap id
@[simp] theorem mks_nil : mks [] = [] := rfl
@[simp] theorem mks_none (r : List (Option M)) : mks (none :: r) = mks r := rfl
@[simp] theorem mks_some (m : M) (r : List (Option M)) : mks (some m :: r) = m :: mks r := rfl
@[simp] theorem mks_app (a b : List (Option M)) : mks (a ++ b) = mks a ++ mks b := by simp [mks]
@[simp] theorem mks_rep (n : Nat) : mks (List.replicate n none) = [] := by
  induction n with
  | zero => rfl
  | succ n ih => rw [List.replicate_succ]; exact ih
theorem mks_mem {sl : List (Option M)} {m : M} : m ∈ mks sl ↔ some m ∈ sl := by simp [mks]
def gapG (p : M → Bool) : List (Option M) → Nat → Nat → Nat × Nat
  | [], i, f => (f, i - f)
  | none :: r, i, f => gapG p r (i + 1) f
  | some x :: r, i, f => if p x = true then (f, i - f) else gapG p r (i + 1) (i + 1)
def gapAt (sl : List (Option M)) (low : M) : Nat × Nat := gapG (lt low) sl 0 0
/-- where the gap stands -/
structure GapD (p : M → Bool) (pre : List (Option M)) (post : List (Option M)) : Prop where
  last : pre = [] ∨ ∃ q x, pre = q ++ [some x]
  low : ∀ x ∈ mks pre, p x = false
  next : post = [] ∨ ∃ x r, post = some x :: r ∧ p x = true
theorem gap_dec' (p : M → Bool) : ∀ (sl : List (Option M)) (i f : Nat), f ≤ i → ∃ pre R post, List.replicate (i - f) none ++ sl = pre ++ (List.replicate R none ++ post) ∧ gapG p sl i f = (f + pre.length, R) ∧ GapD p pre post
  | [], i, f, h => ⟨[], i - f, [], by simp, by simp [gapG], .inl rfl, fun x h => by simp at h, .inl rfl⟩
  | none :: r, i, f, h => by
    obtain ⟨pre, R, post, h1, h2, h3⟩ := gap_dec' p r (i + 1) f (by omega)
    refine ⟨pre, R, post, ?_, h2, h3⟩
    rw [← h1, show i + 1 - f = (i - f) + 1 by omega, List.replicate_succ', List.append_assoc]
    rfl
  | some x :: r, i, f, h => by
    by_cases hx : p x = true
    · exact ⟨[], i - f, some x :: r, by simp, by simp [gapG, hx], .inl rfl, fun x h => by simp at h, .inr ⟨x, r, rfl, hx⟩⟩
    · obtain ⟨pre, R, post, h1, h2, h3⟩ := gap_dec' p r (i + 1) (i + 1) (Nat.le_refl _)
      rw [Nat.sub_self, List.replicate_zero, List.nil_append] at h1
      refine ⟨List.replicate (i - f) none ++ [some x] ++ pre, R, post, by rw [h1]; simp, ?_, ?_, ?_, h3.next⟩
      · rw [gapG, if_neg hx, h2]
        simp only [List.length_append, List.length_replicate, List.length_cons, List.length_nil, Prod.mk.injEq, and_true]
        omega
      · rcases h3.last with z | ⟨q, y, z⟩
        · exact .inr ⟨List.replicate (i - f) none, x, by rw [z, List.append_nil]⟩
        · exact .inr ⟨List.replicate (i - f) none ++ [some x] ++ q, y, by rw [z]; simp⟩
      · intro y hy
        have hy2 : y = x ∨ y ∈ mks pre := by simpa using hy
        rcases hy2 with rfl | hy2
        · simpa using hx
        · exact h3.low y hy2
theorem gap_dec (p : M → Bool) (sl : List (Option M)) : ∃ pre R post, sl = pre ++ (List.replicate R none ++ post) ∧ gapG p sl 0 0 = (pre.length, R) ∧ GapD p pre post := by
  obtain ⟨pre, R, post, h1, h2, h3⟩ := gap_dec' p sl 0 0 (Nat.le_refl _)
  refine ⟨pre, R, post, by simpa using h1, by simpa using h2, h3⟩
theorem gapG_rep (p : M → Bool) (rest : List (Option M)) : ∀ (R i f : Nat), gapG p (List.replicate R none ++ rest) i f = gapG p rest (i + R) f
  | 0, i, f => rfl
  | R + 1, i, f => by
    rw [List.replicate_succ, List.cons_append, gapG, gapG_rep p rest R (i + 1) f]
    congr 1
    omega
theorem gapG_pre (p : M → Bool) (x : M) (hx : p x = false) (rest : List (Option M)) : ∀ (q : List (Option M)) (i f : Nat), (∀ y ∈ mks q, p y = false) → gapG p (q ++ (some x :: rest)) i f = gapG p rest (i + q.length + 1) (i + q.length + 1)
  | [], i, f, _ => by simp [gapG, hx]
  | none :: q, i, f, h => by
    rw [List.cons_append, gapG, gapG_pre p x hx rest q (i + 1) f h, List.length_cons]
    rw [show i + 1 + q.length + 1 = i + (q.length + 1) + 1 by omega]
  | some y :: q, i, f, h => by
    rw [List.cons_append, gapG, if_neg (by rw [h y (by simp)]; decide), gapG_pre p x hx rest q (i + 1) (i + 1) (fun z hz => h z (by simp [hz])), List.length_cons]
    rw [show i + 1 + q.length + 1 = i + (q.length + 1) + 1 by omega]
theorem gap_post (p : M → Bool) {post : List (Option M)} (h : post = [] ∨ ∃ x r, post = some x :: r ∧ p x = true) (i f : Nat) : gapG p post i f = (f, i - f) := by
  rcases h with rfl | ⟨x, r, rfl, hx⟩
  · rfl
  · rw [gapG, if_pos hx]
theorem gap_of {p : M → Bool} {pre post : List (Option M)} (d : GapD p pre post) (R : Nat) : gapG p (pre ++ (List.replicate R none ++ post)) 0 0 = (pre.length, R) := by
  rcases d.last with z | ⟨q, x, z⟩
  · rw [z, List.nil_append, gapG_rep, gap_post p d.next]
    simp
  · have hl := d.low
    rw [z] at hl ⊢
    rw [List.append_assoc, List.singleton_append, gapG_pre p x (hl x (by simp)) _ q 0 0 (fun y hy => hl y (by simp [hy])), gapG_rep, gap_post p d.next]
    simp only [Nat.zero_add, List.length_append, List.length_cons, List.length_nil, Prod.mk.injEq, true_and]
    omega
theorem gap_congr {p q : M → Bool} : ∀ {sl : List (Option M)} {i f : Nat}, (∀ x ∈ mks sl, p x = q x) → gapG p sl i f = gapG q sl i f
  | [], _, _, _ => rfl
  | none :: r, i, f, h => by rw [gapG, gapG, gap_congr (sl := r) h]
  | some x :: r, i, f, h => by rw [gapG, gapG, h x (by simp), gap_congr (sl := r) fun y hy => h y (by simp [hy])]
/-- a mark put into the j-th slot of the gap -/
def put (sl : List (Option M)) (k : Nat) (m : M) : List (Option M) := sl.take k ++ some m :: sl.drop (k + 1)
theorem put_dec {sl pre post : List (Option M)} {R j : Nat} {m : M} (h : sl = pre ++ (List.replicate R none ++ post)) (hj : j < R) : put sl (pre.length + j) m = pre ++ (List.replicate j none ++ (some m :: (List.replicate (R - 1 - j) none ++ post))) := by
  obtain ⟨t, rfl⟩ : ∃ t, R = j + (t + 1) := ⟨R - 1 - j, by omega⟩
  have h2 : sl = (pre ++ List.replicate j none) ++ (none :: (List.replicate t none ++ post)) := by
    rw [h, ← List.replicate_append_replicate, List.replicate_succ]
    simp
  have hl : (pre ++ List.replicate j (none : Option M)).length = pre.length + j := by simp
  unfold put
  have t1 : sl.take (pre.length + j) = pre ++ List.replicate j none := by rw [h2, ← hl, List.take_left]
  have t2 : sl.drop (pre.length + j + 1) = List.replicate t none ++ post := by
    rw [h2, ← hl, ← List.drop_drop, List.drop_left]
    rfl
  rw [t1, t2, show j + (t + 1) - 1 - j = t by omega]
  simp
theorem mks_put {sl pre post : List (Option M)} {R j : Nat} {m : M} (h : sl = pre ++ (List.replicate R none ++ post)) (hj : j < R) : mks (put sl (pre.length + j) m) = mks pre ++ m :: mks post ∧ mks sl = mks pre ++ mks post ∧ (put sl (pre.length + j) m).length = sl.length := by
  rw [put_dec h hj, h]
  refine ⟨by simp, by simp, ?_⟩
  simp only [List.length_append, List.length_replicate, List.length_cons]
  omega
theorem gap_put_hi {p : M → Bool} {sl pre post : List (Option M)} {R j : Nat} {m : M} (h : sl = pre ++ (List.replicate R none ++ post)) (d : GapD p pre post) (hj : j < R) (hm : p m = true) : gapG p (put sl (pre.length + j) m) 0 0 = (pre.length, j) := by
  rw [put_dec h hj]
  exact gap_of ⟨d.last, d.low, .inr ⟨_, _, rfl, hm⟩⟩ j
theorem gap_put_lo {p : M → Bool} {sl pre post : List (Option M)} {R j : Nat} {m : M} (h : sl = pre ++ (List.replicate R none ++ post)) (d : GapD p pre post) (hj : j < R) (hm : p m = false) : gapG p (put sl (pre.length + j) m) 0 0 = (pre.length + j + 1, R - 1 - j) := by
  rw [put_dec h hj]
  have d2 : GapD p (pre ++ List.replicate j none ++ [some m]) post := ⟨.inr ⟨_, _, rfl⟩, fun x hx => by
    have hx2 : x ∈ mks pre ∨ x = m := by simpa using hx
    rcases hx2 with hx2 | rfl
    · exact d.low x hx2
    · exact hm, d.next⟩
  have := gap_of d2 (R - 1 - j)
  simp only [List.append_assoc, List.singleton_append, List.cons_append, List.nil_append] at this
  rw [this]
  simp only [List.length_append, List.length_replicate, List.length_cons, List.length_nil, Prod.mk.injEq, and_true]
  omega

/-! ### halvings -/
def worth (n : Nat) : Nat := if h : n = 0 then 0 else worth ((n - 1) / 2) + 1
termination_by n
decreasing_by omega
theorem worth_0 : worth 0 = 0 := by rw [worth]; rfl
theorem worth_pos {n : Nat} (h : 0 < n) : worth n = worth ((n - 1) / 2) + 1 := by rw [worth, dif_neg (by omega)]
theorem worth_mono : ∀ (b a : Nat), a ≤ b → worth a ≤ worth b
  | b, a, h => by
    by_cases ha : a = 0
    · rw [ha, worth_0]; omega
    · rw [worth_pos (n := a) (by omega), worth_pos (n := b) (by omega)]
      have := worth_mono ((b - 1) / 2) ((a - 1) / 2) (by omega)
      omega
termination_by b => b
decreasing_by omega
theorem worth_half {j R : Nat} (h : j < R) : worth j + 1 ≤ worth R ∨ worth (R - 1 - j) + 1 ≤ worth R := by
  rw [worth_pos (n := R) (by omega)]
  by_cases q : j ≤ (R - 1) / 2
  · exact .inl (by have := worth_mono _ _ q; omega)
  · exact .inr (by have := worth_mono ((R - 1) / 2) (R - 1 - j) (by omega); omega)
theorem worth_le (n : Nat) : worth n ≤ n := by
  induction n using Nat.strongRecOn with
  | _ n ih =>
    by_cases h : n = 0
    · rw [h, worth_0]; omega
    · rw [worth_pos (by omega)]
      have := ih ((n - 1) / 2) (by omega)
      omega

/-! ### houses -/
def own (h : Ho) : List M := h.sh.flatMap fun s => mks s.sl
def allM (h : Ho) : List M := ordM (own h)
def ends (h : Ho) : List M := (0, 1) :: (allM h ++ [(1, 1)])
def strt (h : Ho) : List (M × M) := (ends h).zip ((ends h).drop 1)
def shV (c : Str) (low : M) (s : Sh) : Int := if c ∈ s.tk then (worth (gapAt s.sl low).2 : Int) else 0
def sumAt (h : Ho) (c : Str) (low : M) : Int := h.ps + (h.sh.map (shV c low)).sum
def allS (h : Ho) : List (Str × (M × M) × Int) := h.cs.flatMap fun c => (strt h).map fun s => (c, s, sumAt h c s.1)
def sure (h : Ho) : Int := minI ((allS h).map fun r => r.2.2)
def passA : An := ((("" : Str)), (0 : Int))
def shA (c : Str) (m : M) (s : Sh) : List An := if c ∈ s.tk then (List.range (gapAt s.sl m).2).map fun i => (s.nm, (((gapAt s.sl m).1 + i : Nat) : Int)) else []
def answers (h : Ho) (c : Str) (m : M) : List An := (if 0 < h.ps then [passA] else []) ++ h.sh.flatMap (shA c m)
def withS (h : Ho) (nm : Str) (sl : List (Option M)) : Ho := { h with sh := h.sh.map fun s => if s.nm = nm then { s with sl := sl } else s }
def slotsOf (h : Ho) (nm : Str) : List (Option M) := ((h.sh.filter fun s => decide (s.nm = nm)).map (·.sl)).headD []
def behind (h : Ho) (m : M) (a : An) : Ho := if a = passA then { h with ps := h.ps - 1 } else withS h a.1 (put (slotsOf h a.1) a.2.toNat m)
def lessens (h : Ho) (c : Str) (m : M) : Bool := decide (∀ a ∈ answers h c m, sure (behind h m a) < sure h)
structure Vd (h : Ho) : Prop where
  n5 : h.sh.length ≤ 5
  ps0 : 0 ≤ h.ps
  ps1 : h.ps ≤ 20
  cs0 : h.cs ≠ []
  cs4 : h.cs.length ≤ 4
  csk : ∀ c ∈ h.cs, PyData.strOk c = true
  nm : h.sh.Pairwise fun a b => a.nm.cps.toList < b.nm.cps.toList
  nmk : ∀ s ∈ h.sh, PyData.strOk s.nm = true ∧ s.nm ≠ ""
  tkk : ∀ s ∈ h.sh, s.tk.length ≤ 4 ∧ ∀ c ∈ s.tk, PyData.strOk c = true
  s1 : ∀ s ∈ h.sh, 1 ≤ s.sl.length ∧ s.sl.length ≤ 20
  mrk : ∀ s ∈ h.sh, ∀ m ∈ mks s.sl, OkM m
  asc : ∀ s ∈ h.sh, Asc (mks s.sl)
  nd : (own h).Nodup
  few : (own h).length < 64
theorem own_mem {h : Ho} {m : M} : m ∈ own h ↔ ∃ s ∈ h.sh, m ∈ mks s.sl := by simp [own]
theorem allM_mem {h : Ho} {m : M} : m ∈ allM h ↔ ∃ s ∈ h.sh, m ∈ mks s.sl := by rw [allM, ordM_mem, own_mem]
theorem Vd.okA {h : Ho} (V : Vd h) {m : M} (hm : m ∈ allM h) : OkM m := by
  obtain ⟨s, hs, hm⟩ := allM_mem.mp hm
  exact V.mrk s hs m hm
theorem Vd.ascA {h : Ho} (V : Vd h) : Asc (allM h) := ordM_asc (fun x hx => by
  obtain ⟨s, hs, hm⟩ := own_mem.mp hx
  exact (V.mrk s hs x hm).toOkE) V.nd
theorem Vd.ascE {h : Ho} (V : Vd h) : Asc (ends h) := by
  refine List.pairwise_cons.mpr ⟨fun x hx => ?_, List.pairwise_append.mpr ⟨V.ascA, by simp, fun x hx y hy => ?_⟩⟩
  · rcases List.mem_append.mp hx with hx | hx
    · exact lt_0 (V.okA hx)
    · rw [List.mem_singleton.mp hx]; decide
  · rw [List.mem_singleton.mp hy]
    exact lt_1 (V.okA hx)
theorem ends_mem {h : Ho} {x : M} : x ∈ ends h ↔ x = (0, 1) ∨ x ∈ allM h ∨ x = (1, 1) := by simp [ends]
theorem Vd.okEnd {h : Ho} (V : Vd h) {x : M} (hx : x ∈ ends h) : OkE x := by
  rcases ends_mem.mp hx with rfl | hx | rfl
  · exact okE_0
  · exact (V.okA hx).toOkE
  · exact okE_1
theorem mem_zip1 : ∀ {L : List M} {x y : M}, Asc L → ((x, y) ∈ L.zip (L.drop 1) ↔ x ∈ L ∧ y ∈ L ∧ lt x y = true ∧ ∀ z ∈ L, lt x z = true → lt z y = false)
  | [], x, y, _ => by simp
  | [u], x, y, _ => by
    simp only [List.drop_succ_cons, List.drop_zero, List.zip_nil_right, List.not_mem_nil, false_iff, List.mem_singleton]
    rintro ⟨rfl, rfl, h, _⟩
    rw [lt_irr] at h
    cases h
  | u :: v :: r, x, y, h => by
    obtain ⟨h1, h2⟩ := List.pairwise_cons.mp h
    have ih := mem_zip1 (x := x) (y := y) h2
    have huv : lt u v = true := h1 v List.mem_cons_self
    rw [List.drop_succ_cons, List.drop_zero] at ih ⊢
    rw [List.zip_cons_cons, List.mem_cons, Prod.mk.injEq, ih]
    constructor
    · rintro (⟨rfl, rfl⟩ | ⟨a, b, c, d⟩)
      · refine ⟨List.mem_cons_self, by simp, huv, fun z hz hxz => ?_⟩
        rcases List.mem_cons.mp hz with rfl | hz
        · rw [lt_irr] at hxz; cases hxz
        · rcases List.mem_cons.mp hz with rfl | hz
          · exact lt_irr _
          · exact lt_asym ((List.pairwise_cons.mp h2).1 z hz)
      · refine ⟨List.mem_cons_of_mem _ a, List.mem_cons_of_mem _ b, c, fun z hz hxz => ?_⟩
        rcases List.mem_cons.mp hz with ez | hz2
        · rw [ez, lt_asym (h1 x a)] at hxz; cases hxz
        · exact d z hz2 hxz
    · rintro ⟨a, b, c, d⟩
      rcases List.mem_cons.mp a with ea | a2
      · rcases List.mem_cons.mp b with eb | b2
        · rw [ea, eb, lt_irr] at c; cases c
        · rcases List.mem_cons.mp b2 with eb | b3
          · exact .inl ⟨ea, eb⟩
          · have := d v (by simp) (by rw [ea]; exact huv)
            rw [(List.pairwise_cons.mp h2).1 y b3] at this
            cases this
      · rcases List.mem_cons.mp b with eb | b2
        · rw [eb, lt_asym (h1 x a2)] at c; cases c
        · exact .inr ⟨a2, b2, c, fun z hz => d z (List.mem_cons_of_mem _ hz)⟩
theorem Vd.str {h : Ho} (V : Vd h) {s : M × M} : s ∈ strt h ↔ s.1 ∈ ends h ∧ s.2 ∈ ends h ∧ lt s.1 s.2 = true ∧ ∀ z ∈ ends h, lt s.1 z = true → lt z s.2 = false := mem_zip1 (x := s.1) (y := s.2) V.ascE
theorem strt_ne (h : Ho) : strt h ≠ [] := by
  unfold strt ends
  intro z
  have := congrArg List.length z
  simp only [List.length_zip, List.length_cons, List.length_append, List.length_drop, List.length_nil] at this
  omega
theorem allS_mem {h : Ho} {r : Str × (M × M) × Int} : r ∈ allS h ↔ r.1 ∈ h.cs ∧ r.2.1 ∈ strt h ∧ r.2.2 = sumAt h r.1 r.2.1.1 := by
  obtain ⟨c, s, t⟩ := r
  simp only [allS, List.mem_flatMap, List.mem_map, Prod.mk.injEq]
  constructor
  · rintro ⟨c', hc, s', hs, rfl, rfl, rfl⟩
    exact ⟨hc, hs, rfl⟩
  · rintro ⟨hc, hs, rfl⟩
    exact ⟨c, hc, s, hs, rfl, rfl, rfl⟩
theorem allS_ne {h : Ho} (hc : h.cs ≠ []) : (allS h).map (fun r => r.2.2) ≠ [] := by
  intro z
  rw [List.map_eq_nil_iff] at z
  obtain ⟨c, hc⟩ := List.exists_mem_of_ne_nil _ hc
  obtain ⟨s, hs⟩ := List.exists_mem_of_ne_nil _ (strt_ne h)
  have : (c, s, sumAt h c s.1) ∈ allS h := allS_mem.mpr ⟨hc, hs, rfl⟩
  rw [z] at this
  cases this
theorem sure_le {h : Ho} (hc0 : h.cs ≠ []) {c : Str} {s : M × M} (hc : c ∈ h.cs) (hs : s ∈ strt h) : sure h ≤ sumAt h c s.1 :=
  (minI_ok _ (allS_ne hc0)).2 _ (List.mem_map.mpr ⟨(c, s, sumAt h c s.1), allS_mem.mpr ⟨hc, hs, rfl⟩, rfl⟩)
theorem sure_at {h : Ho} (hc0 : h.cs ≠ []) : ∃ c ∈ h.cs, ∃ s ∈ strt h, sure h = sumAt h c s.1 := by
  obtain ⟨r, hr, e⟩ := List.mem_map.mp (minI_ok _ (allS_ne hc0)).1
  obtain ⟨h1, h2, h3⟩ := allS_mem.mp hr
  exact ⟨r.1, h1, r.2.1, h2, by rw [← h3, e]; rfl⟩
theorem sum_nonneg : ∀ {l : List Int}, (∀ x ∈ l, 0 ≤ x) → 0 ≤ l.sum
  | [], _ => by simp
  | a :: l, h => by
    rw [List.sum_cons]
    have := h a List.mem_cons_self
    have := sum_nonneg (l := l) fun x hx => h x (List.mem_cons_of_mem _ hx)
    omega
theorem sumAt_nonneg {h : Ho} (hp : 0 ≤ h.ps) (c : Str) (low : M) : 0 ≤ sumAt h c low := by
  unfold sumAt
  have : 0 ≤ (h.sh.map (shV c low)).sum := sum_nonneg fun x hx => by
    obtain ⟨s, _, rfl⟩ := List.mem_map.mp hx
    unfold shV
    split <;> omega
  omega
theorem sure_nonneg {h : Ho} (hc : h.cs ≠ []) (hp : 0 ≤ h.ps) : 0 ≤ sure h := by
  obtain ⟨c, _, s, _, e⟩ := sure_at hc
  rw [e]
  exact sumAt_nonneg hp c s.1
theorem sum_lt {α : Type} {f g : α → Int} : ∀ {l : List α} {a : α}, (∀ x ∈ l, f x ≤ g x) → a ∈ l → f a + 1 ≤ g a → (l.map f).sum + 1 ≤ (l.map g).sum
  | [], _, _, h, _ => nomatch h
  | b :: l, a, h, ha, hs => by
    rw [List.map_cons, List.map_cons, List.sum_cons, List.sum_cons]
    have hb := h b List.mem_cons_self
    rcases List.mem_cons.mp ha with rfl | ha
    · have : (l.map f).sum ≤ (l.map g).sum := by
        have go : ∀ {l : List α}, (∀ x ∈ l, f x ≤ g x) → (l.map f).sum ≤ (l.map g).sum := by
          intro l
          induction l with
          | nil => intro _; simp
          | cons c l ih =>
            intro h
            rw [List.map_cons, List.map_cons, List.sum_cons, List.sum_cons]
            have := h c List.mem_cons_self
            have := ih fun x hx => h x (List.mem_cons_of_mem _ hx)
            omega
        exact go fun x hx => h x (List.mem_cons_of_mem _ hx)
      omega
    · have := sum_lt (fun x hx => h x (List.mem_cons_of_mem _ hx)) ha hs
      omega
/-! ### answers -/
theorem Vd.uniq {h : Ho} (V : Vd h) : ∀ {s t : Sh}, s ∈ h.sh → t ∈ h.sh → s.nm = t.nm → s = t := by
  have go : ∀ {l : List Sh}, (l.Pairwise fun a b => a.nm.cps.toList < b.nm.cps.toList) → ∀ {s t : Sh}, s ∈ l → t ∈ l → s.nm = t.nm → s = t := by
    intro l
    induction l with
    | nil => intro _ s t hs; cases hs
    | cons a l ih =>
      intro h s t hs ht e
      obtain ⟨h1, h2⟩ := List.pairwise_cons.mp h
      rcases List.mem_cons.mp hs with e1 | hs2
      · rcases List.mem_cons.mp ht with e2 | ht2
        · rw [e1, e2]
        · have := h1 t ht2
          rw [← e1, e] at this
          exact absurd this (List.lt_irrefl _)
      · rcases List.mem_cons.mp ht with e2 | ht2
        · have := h1 s hs2
          rw [← e2, e] at this
          exact absurd this (List.lt_irrefl _)
        · exact ih h2 hs2 ht2 e
  exact fun {s t} hs ht e => go V.nm hs ht e
theorem Vd.slotsOf {h : Ho} (V : Vd h) {s : Sh} (hs : s ∈ h.sh) : slotsOf h s.nm = s.sl := by
  have h1 : s ∈ h.sh.filter fun t => decide (t.nm = s.nm) := List.mem_filter.mpr ⟨hs, decide_eq_true rfl⟩
  unfold Rf.slotsOf
  cases q : h.sh.filter fun t => decide (t.nm = s.nm) with
  | nil => rw [q] at h1; cases h1
  | cons t r =>
    have h2 : t ∈ h.sh.filter fun t => decide (t.nm = s.nm) := by rw [q]; exact List.mem_cons_self
    obtain ⟨h3, h4⟩ := List.mem_filter.mp h2
    rw [V.uniq h3 hs (of_decide_eq_true h4)]
    rfl
theorem ans_mem {h : Ho} {c : Str} {m : M} {a : An} : a ∈ answers h c m ↔ (a = passA ∧ 0 < h.ps) ∨ ∃ s ∈ h.sh, c ∈ s.tk ∧ ∃ j, j < (gapAt s.sl m).2 ∧ a = (s.nm, (((gapAt s.sl m).1 + j : Nat) : Int)) := by
  unfold answers
  rw [List.mem_append, List.mem_flatMap]
  constructor
  · rintro (hx | ⟨s, hs, ha⟩)
    · split at hx
      · rename_i hp
        exact .inl ⟨List.mem_singleton.mp hx, hp⟩
      · cases hx
    · unfold shA at ha
      split at ha
      · rename_i hc
        obtain ⟨j, hj, rfl⟩ := List.mem_map.mp ha
        exact .inr ⟨s, hs, hc, j, List.mem_range.mp hj, rfl⟩
      · cases ha
  · rintro (⟨rfl, hp⟩ | ⟨s, hs, hc, j, hj, rfl⟩)
    · rw [if_pos hp]
      exact .inl (by simp)
    · refine .inr ⟨s, hs, ?_⟩
      unfold shA
      rw [if_pos hc]
      exact List.mem_map.mpr ⟨j, List.mem_range.mpr hj, rfl⟩
/-- what stands behind an answer -/
theorem behind_pass (h : Ho) (m : M) : behind h m passA = { h with ps := h.ps - 1 } := by unfold behind; rw [if_pos rfl]
theorem Vd.behind_put {h : Ho} (V : Vd h) {s : Sh} (hs : s ∈ h.sh) (m : M) (k : Nat) : behind h m (s.nm, (k : Int)) = { h with sh := h.sh.map fun t => if t.nm = s.nm then { t with sl := put s.sl k m } else t } := by
  unfold behind
  rw [if_neg (fun z => (V.nmk s hs).2 (congrArg Prod.fst z)), V.slotsOf hs, Int.toNat_natCast]
  rfl
theorem perm_flat {α β : Type} {f g : α → List β} {m : β} : ∀ {l : List α} {a : α}, a ∈ l → (∀ x ∈ l, x ≠ a → f x = g x) → l.Nodup → (f a).Perm (m :: g a) → (l.flatMap f).Perm (m :: l.flatMap g)
  | [], _, h, _, _, _ => nomatch h
  | b :: l, a, h, h1, nd, h2 => by
    rw [List.flatMap_cons, List.flatMap_cons]
    obtain ⟨n1, n2⟩ := List.nodup_cons.mp nd
    rcases List.mem_cons.mp h with rfl | h
    · have e : l.flatMap f = l.flatMap g := by
        rw [List.flatMap_def, List.flatMap_def]
        congr 1
        exact List.map_congr_left fun x hx => h1 x (List.mem_cons_of_mem _ hx) fun z => n1 (z ▸ hx)
      rw [e]
      exact h2.append_right _
    · rw [h1 b List.mem_cons_self fun z => n1 (z ▸ h)]
      exact ((perm_flat h (fun x hx => h1 x (List.mem_cons_of_mem _ hx)) n2 h2).append_left _).trans List.perm_middle
theorem Vd.ndSh {h : Ho} (V : Vd h) : h.sh.Nodup := V.nm.imp fun {a b} z e => by rw [e] at z; exact List.lt_irrefl _ z
theorem Vd.own_put {h : Ho} (V : Vd h) {s : Sh} (hs : s ∈ h.sh) {m : M} {j : Nat} (hj : j < (gapAt s.sl m).2) : (own (behind h m (s.nm, (((gapAt s.sl m).1 + j : Nat) : Int)))).Perm (m :: own h) := by
  rw [V.behind_put hs]
  obtain ⟨pre, R, post, h1, h2, d⟩ := gap_dec (lt m) s.sl
  have e : gapAt s.sl m = (pre.length, R) := h2
  rw [e] at hj ⊢
  obtain ⟨p1, p2, p3⟩ := mks_put (m := m) h1 hj
  unfold own
  show ((h.sh.map _).flatMap _).Perm _
  rw [List.flatMap_map]
  refine perm_flat hs (fun x hx hne => ?_) V.ndSh ?_
  · have : ¬ x.nm = s.nm := fun z => hne (V.uniq hx hs z)
    simp only [Function.comp, if_neg this]
  · simp only [Function.comp, if_true, p1, p2]
    exact List.perm_middle
/-- it stays a house -/
theorem Vd.behind {h : Ho} (V : Vd h) {c : Str} {m : M} {a : An} (hm : OkM m) (hn : m ∉ allM h) (hf : (own h).length + 1 < 64) (ha : a ∈ answers h c m) : Vd (behind h m a) := by
  rcases ans_mem.mp ha with ⟨rfl, hp⟩ | ⟨s, hs, hc, j, hj, rfl⟩
  · rw [behind_pass]
    exact { V with ps0 := by show 0 ≤ h.ps - 1; omega, ps1 := by show h.ps - 1 ≤ 20; have := V.ps1; omega }
  · have P := V.own_put hs hj
    have hn2 : m ∉ own h := fun z => hn (ordM_mem.mpr z)
    have nd : (own (Rf.behind h m (s.nm, (((gapAt s.sl m).1 + j : Nat) : Int)))).Nodup := P.nodup_iff.mpr (List.nodup_cons.mpr ⟨hn2, V.nd⟩)
    have few : (own (Rf.behind h m (s.nm, (((gapAt s.sl m).1 + j : Nat) : Int)))).length < 64 := by rw [P.length_eq]; exact hf
    rw [V.behind_put hs] at nd few ⊢
    obtain ⟨pre, R, post, h1, h2, d⟩ := gap_dec (lt m) s.sl
    have e : gapAt s.sl m = (pre.length, R) := h2
    rw [e] at hj nd few ⊢
    obtain ⟨p1, p2, p3⟩ := mks_put (m := m) h1 hj
    have hms : m ∉ mks s.sl := fun z => hn (allM_mem.mpr ⟨s, hs, z⟩)
    have okA := V.asc s hs
    have okK := V.mrk s hs
    rw [p2] at okA okK hms
    have up : Asc (mks (put s.sl (pre.length + j) m)) := by
      rw [p1]
      obtain ⟨a1, a2, a3⟩ := List.pairwise_append.mp okA
      have hpost : ∀ x ∈ mks post, lt m x = true := by
        rcases d.next with rfl | ⟨y, r, rfl, hy⟩
        · intro x hx; cases hx
        · intro x hx
          rw [mks_some] at hx a2 okK
          rcases List.mem_cons.mp hx with rfl | hx
          · exact hy
          · exact lt_tr hm.c (okK y (by simp)).c (okK x (by simp [hx])).c hy ((List.pairwise_cons.mp a2).1 x hx)
      refine List.pairwise_append.mpr ⟨a1, List.pairwise_cons.mpr ⟨hpost, a2⟩, fun x hx y hy => ?_⟩
      rcases List.mem_cons.mp hy with rfl | hy
      · have hne : x ≠ y := fun z => hms (by rw [← z]; simp [hx])
        rw [lt_tri (okK x (by simp [hx])).toOkE hm.toOkE hne, d.low x hx]
        rfl
      · exact a3 x hx y hy
    have each : ∀ {Q : Sh → Prop}, (∀ t ∈ h.sh, Q t) → Q { s with sl := put s.sl (pre.length + j) m } → ∀ t ∈ h.sh.map (fun t => if t.nm = s.nm then { t with sl := put s.sl (pre.length + j) m } else t), Q t := fun {Q} hQ hq t ht => by
      obtain ⟨u, hu, rfl⟩ := List.mem_map.mp ht
      by_cases eu : u.nm = s.nm
      · rw [if_pos eu, V.uniq hu hs eu]
        exact hq
      · rw [if_neg eu]
        exact hQ u hu
    exact {
      n5 := by show (h.sh.map _).length ≤ 5; rw [List.length_map]; exact V.n5
      ps0 := V.ps0, ps1 := V.ps1, cs0 := V.cs0, cs4 := V.cs4, csk := V.csk
      nm := by
        show (h.sh.map _).Pairwise _
        rw [List.pairwise_map]
        refine V.nm.imp fun {a b} z => ?_
        have ea : ∀ t : Sh, (if t.nm = s.nm then { t with sl := put s.sl (pre.length + j) m } else t).nm = t.nm := fun t => by split <;> rfl
        rw [ea, ea]
        exact z
      nmk := each (Q := fun t => PyData.strOk t.nm = true ∧ t.nm ≠ "") V.nmk (V.nmk s hs)
      tkk := each (Q := fun t => t.tk.length ≤ 4 ∧ ∀ c ∈ t.tk, PyData.strOk c = true) V.tkk (V.tkk s hs)
      s1 := each (Q := fun t => 1 ≤ t.sl.length ∧ t.sl.length ≤ 20) V.s1 (by show 1 ≤ (put _ _ _).length ∧ (put _ _ _).length ≤ 20; rw [p3]; exact V.s1 s hs)
      mrk := each (Q := fun t => ∀ m ∈ mks t.sl, OkM m) V.mrk (by
        show ∀ x ∈ mks (put _ _ _), OkM x
        rw [p1]
        intro x hx
        rcases List.mem_append.mp hx with hx | hx
        · exact okK x (by simp [hx])
        · rcases List.mem_cons.mp hx with rfl | hx
          · exact hm
          · exact okK x (by simp [hx]))
      asc := each (Q := fun t => Asc (mks t.sl)) V.asc up
      nd := nd
      few := few }
/-- a stretch's lower end, and a mark in it: all other marks lie alike -/
theorem Vd.alike {h : Ho} (V : Vd h) {s : M × M} (hs : s ∈ strt h) {m : M} (hm : OkM m) (h1 : lt s.1 m = true) (h2 : lt m s.2 = true) {x : M} (hx : x ∈ allM h) : lt s.1 x = lt m x := by
  obtain ⟨a1, a2, a3, a4⟩ := V.str.mp hs
  have ox := V.okA hx
  have o1 := V.okEnd a1
  have o2 := V.okEnd a2
  cases q : lt m x with
  | true => exact lt_tr o1.c hm.c ox.c h1 q
  | false =>
    cases q2 : lt s.1 x with
    | false => rfl
    | true =>
      have h3 := a4 x (ends_mem.mpr (.inr (.inl hx))) q2
      by_cases e : x = m
      · rw [e, h2] at h3; cases h3
      · have h4 := lt_tri ox.toOkE hm.toOkE e
        rw [q] at h4
        have := lt_tr ox.c hm.c o2.c h4 h2
        rw [h3] at this
        cases this
theorem Vd.new {h : Ho} (V : Vd h) {s : M × M} (hs : s ∈ strt h) {m : M} (h1 : lt s.1 m = true) (h2 : lt m s.2 = true) : m ∉ allM h := fun z => by
  obtain ⟨a1, a2, a3, a4⟩ := V.str.mp hs
  have := a4 m (ends_mem.mpr (.inr (.inl z))) h1
  rw [h2] at this
  cases this
/-- behind any answer to a mark in a stretch of the least sum fewer are sure -/
theorem Vd.worst_at {h : Ho} (V : Vd h) (hf : (own h).length + 1 < 64) {c : Str} (hc : c ∈ h.cs) {s : M × M} (hs : s ∈ strt h) (he : sure h = sumAt h c s.1) {m : M} (hm : OkM m) (h1 : lt s.1 m = true) (h2 : lt m s.2 = true) {a : An} (ha : a ∈ answers h c m) : sure (Rf.behind h m a) < sure h := by
  have hn := V.new hs h1 h2
  have V2 := V.behind hm hn hf ha
  rcases ans_mem.mp ha with ⟨rfl, hp⟩ | ⟨t, ht, hct, j, hj, rfl⟩
  · rw [behind_pass] at V2 ⊢
    have := sure_le (h := { h with ps := h.ps - 1 }) V.cs0 (c := c) (s := s) hc hs
    have e2 : sumAt { h with ps := h.ps - 1 } c s.1 = sumAt h c s.1 - 1 := by
      show h.ps - 1 + _ = h.ps + _ - 1
      show h.ps - 1 + (h.sh.map (shV c s.1)).sum = h.ps + (h.sh.map (shV c s.1)).sum - 1
      omega
    omega
  · have P := V.own_put ht hj
    have memA : ∀ x, x ∈ allM (Rf.behind h m (t.nm, (((gapAt t.sl m).1 + j : Nat) : Int))) ↔ x = m ∨ x ∈ allM h := fun x => by
      rw [allM, ordM_mem, P.mem_iff, List.mem_cons, allM, ordM_mem]
    have memE : ∀ x, x ∈ ends (Rf.behind h m (t.nm, (((gapAt t.sl m).1 + j : Nat) : Int))) ↔ x = m ∨ x ∈ ends h := fun x => by
      rw [ends_mem, ends_mem, memA]
      constructor
      · rintro (z | (z | z) | z)
        · exact .inr (.inl z)
        · exact .inl z
        · exact .inr (.inr (.inl z))
        · exact .inr (.inr (.inr z))
      · rintro (z | z | z | z)
        · exact .inr (.inl (.inl z))
        · exact .inl z
        · exact .inr (.inl (.inr z))
        · exact .inr (.inr z)
    obtain ⟨a1, a2, a3, a4⟩ := V.str.mp hs
    have o1 := V.okEnd a1
    have o2 := V.okEnd a2
    have lo : (s.1, m) ∈ strt (Rf.behind h m (t.nm, (((gapAt t.sl m).1 + j : Nat) : Int))) := V2.str.mpr ⟨(memE _).mpr (.inr a1), (memE _).mpr (.inl rfl), h1, fun z hz q => by
      rcases (memE z).mp hz with rfl | hz
      · exact lt_irr _
      · cases q2 : lt z m with
        | false => rfl
        | true =>
          have := a4 z hz q
          rw [lt_tr (V.okEnd hz).c hm.c o2.c q2 h2] at this
          cases this⟩
    have hi : (m, s.2) ∈ strt (Rf.behind h m (t.nm, (((gapAt t.sl m).1 + j : Nat) : Int))) := V2.str.mpr ⟨(memE _).mpr (.inl rfl), (memE _).mpr (.inr a2), h2, fun z hz q => by
      rcases (memE z).mp hz with rfl | hz
      · rw [lt_irr] at q; cases q
      · exact a4 z hz (lt_tr o1.c hm.c (V.okEnd hz).c h1 q)⟩
    have go : ∀ low : M, (low = s.1 ∨ low = m) → (∀ x ∈ mks t.sl, lt low x = lt m x) → worth (gapAt (put t.sl ((gapAt t.sl m).1 + j) m) low).2 + 1 ≤ worth (gapAt t.sl m).2 →
        sumAt (Rf.behind h m (t.nm, (((gapAt t.sl m).1 + j : Nat) : Int))) c low + 1 ≤ sumAt h c s.1 := fun low hlow hal hw => by
      rw [V.behind_put ht]
      unfold sumAt
      show h.ps + ((h.sh.map _).map _).sum + 1 ≤ _
      rw [List.map_map]
      have same : ∀ u ∈ h.sh, gapAt u.sl low = gapAt u.sl s.1 := fun u hu => gap_congr fun x hx => by
        rcases hlow with rfl | rfl
        · rfl
        · exact (V.alike hs hm h1 h2 (allM_mem.mpr ⟨u, hu, hx⟩)).symm
      have sm : gapAt t.sl s.1 = gapAt t.sl m := gap_congr fun x hx => V.alike hs hm h1 h2 (allM_mem.mpr ⟨t, ht, hx⟩)
      have key := sum_lt (f := (shV c low) ∘ fun u => if u.nm = t.nm then { u with sl := put t.sl ((gapAt t.sl m).1 + j) m } else u) (g := shV c s.1) (l := h.sh) (a := t) (fun u hu => by
        simp only [Function.comp]
        by_cases e : u.nm = t.nm
        · rw [if_pos e, V.uniq hu ht e]
          unfold shV
          simp only [if_pos hct, sm]
          omega
        · rw [if_neg e]
          unfold shV
          rw [same u hu]
          exact Int.le_refl _) ht (by
        simp only [Function.comp, if_true]
        unfold shV
        simp only [if_pos hct, sm]
        omega)
      omega
    obtain ⟨pre, R, post, d1, d2, d⟩ := gap_dec (lt m) t.sl
    have e : gapAt t.sl m = (pre.length, R) := d2
    have hj2 : j < R := by rw [e] at hj; exact hj
    have alm : ∀ x ∈ mks t.sl, lt s.1 x = lt m x := fun x hx => V.alike hs hm h1 h2 (allM_mem.mpr ⟨t, ht, hx⟩)
    have ds : GapD (lt s.1) pre post := ⟨d.last, fun x hx => by rw [alm x (by rw [d1]; simp [hx])]; exact d.low x hx, by
      rcases d.next with z | ⟨x, r, z, hx⟩
      · exact .inl z
      · exact .inr ⟨x, r, z, by rw [alm x (by rw [d1, z]; simp)]; exact hx⟩⟩
    rcases worth_half hj2 with w | w
    · have := go s.1 (.inl rfl) alm (by rw [e]; simp only; unfold gapAt; rw [gap_put_hi d1 ds hj2 h1]; exact w)
      have := sure_le V2.cs0 (c := c) (by rw [V.behind_put ht]; exact hc) lo
      simp only at this
      omega
    · have := go m (.inr rfl) (fun _ _ => rfl) (by rw [e]; simp only; unfold gapAt; rw [gap_put_lo d1 d hj2 (lt_irr m)]; exact w)
      have := sure_le V2.cs0 (c := c) (by rw [V.behind_put ht]; exact hc) hi
      simp only at this
      omega
/-- there always is a worst call -/
theorem Vd.worst_ex {h : Ho} (V : Vd h) (hf : (own h).length + 1 < 64) (hb : ∀ x ∈ allM h, 2 * x.2 < 10 ^ 40) : ∃ c ∈ h.cs, ∃ s ∈ strt h, lessens h c (mid s) = true := by
  obtain ⟨c, hc, s, hs, e⟩ := sure_at V.cs0
  refine ⟨c, hc, s, hs, ?_⟩
  obtain ⟨a1, a2, a3, a4⟩ := V.str.mp hs
  have b : ∀ x ∈ ends h, 2 * x.2 < 10 ^ 40 := fun x hx => by
    rcases ends_mem.mp hx with rfl | hx | rfl
    · decide
    · exact hb x hx
    · decide
  have b1 := b _ a1
  have b2 := b _ a2
  have hm := mid_ok (V.okEnd a1) (V.okEnd a2) a3 (by omega)
  obtain ⟨m1, m2⟩ := mid_between (V.okEnd a1).c (V.okEnd a2).c a3
  exact decide_eq_true fun a ha => V.worst_at hf hc hs e hm m1 m2 ha
end Rf

set_option maxRecDepth 100000
set_option maxHeartbeats 2000000
/-! N2: sizes; what simp needs around denF. -/
namespace Rf
open PySem PySem.Spec PyProof.Rows L2
def Sz (i : Int) : Prop := i.natAbs < 2 ^ 250
theorem log_lt {n k : Nat} (hk : 0 < k) (h : n < 2 ^ k) : n.log2 < k := by
  by_cases h0 : n = 0
  · rw [h0]; simpa using hk
  · exact (Nat.log2_lt h0).mpr h
theorem mul_ok {i j : Int} (hi : Sz i) (hj : Sz j) : mulB i j = true := by
  unfold mulB Sz at *
  have := log_lt (by decide) hi
  have := log_lt (by decide) hj
  exact decide_eq_true (by omega)
theorem fl_ok {j : Int} (hj : Sz j) : j.natAbs.log2 < 9000 := by
  unfold Sz at hj
  have := log_lt (by decide) hj
  omega
def SzM (m : M) : Prop := Sz m.1 ∧ Sz m.2
theorem p40 : (10 : Int) ^ 40 < 2 ^ 250 := by decide
theorem Sz.of {i : Int} (h0 : 0 ≤ i) (h : i < 10 ^ 41) : Sz i := by
  unfold Sz
  have : (10 : Int) ^ 41 < 2 ^ 250 := by decide
  have e : (2 : Nat) ^ 250 = ((2 : Int) ^ 250).toNat := by decide
  rw [e]
  omega
theorem Sz.num {i : Int} (h0 : 0 ≤ i) (h : i ≤ 1000000000000000000000000000000) : Sz i := .of h0 (by
  have : (1000000000000000000000000000000 : Int) < 10 ^ 41 := by decide
  omega)
theorem lt62 {i : Int} (h : i ≤ 100000) : i < 2 ^ 62 := by
  have : (100000 : Int) < 2 ^ 62 := by decide
  omega
theorem OkE.sz {m : M} (h : OkE m) : SzM m := by
  have := h.a
  have := h.b
  have := h.c
  have := h.d
  have e : (10 : Int) ^ 40 ≤ 10 ^ 41 := by decide
  exact ⟨.of (by omega) (by omega), .of (by omega) (by omega)⟩
theorem atI_z {α : Type} (a : α) (l : List α) : L2.atI (a :: l) 0 = some a := by
  have := at_nat (a :: l) 0
  simpa using this
theorem atI_1 {α : Type} (a b : α) (l : List α) : L2.atI (a :: b :: l) 1 = some b := by
  have := at_nat (a :: b :: l) 1
  simpa using this
theorem atI_2 {α : Type} (a b c : α) (l : List α) : L2.atI (a :: b :: c :: l) 2 = some c := by
  have := at_nat (a :: b :: c :: l) 2
  simpa using this
@[simp] theorem ix_t0 (a : D) (l : List D) : ixD (.tup (a :: l)) (.int 0) = some a := atI_z a l
@[simp] theorem ix_t1 (a b : D) (l : List D) : ixD (.tup (a :: b :: l)) (.int 1) = some b := atI_1 a b l
@[simp] theorem ix_t2 (a b c : D) (l : List D) : ixD (.tup (a :: b :: c :: l)) (.int 2) = some c := atI_2 a b c l
@[simp] theorem ix_l0 (a : D) (l : List D) : ixD (.lst (a :: l)) (.int 0) = some a := atI_z a l
@[simp] theorem ix_l1 (a b : D) (l : List D) : ixD (.lst (a :: b :: l)) (.int 1) = some b := atI_1 a b l
@[simp] theorem ix_l2 (a b c : D) (l : List D) : ixD (.lst (a :: b :: c :: l)) (.int 2) = some c := atI_2 a b c l
@[simp] theorem it_l (l : List D) : itemsD (.lst l) = some l := rfl
@[simp] theorem it_t (l : List D) : itemsD (.tup l) = some l := rfl
@[simp] theorem asg_nm (i : Nat) (d : D) (e : Envd) : asgT (.nm i) d e = some (e.set i (some d)) := rfl
@[simp] theorem asg_tp (ts : List Tg) (ds : List D) (e : Envd) : asgT (.tp ts) (.tup ds) e = asgTs ts ds e := rfl
@[simp] theorem asg_n (e : Envd) : asgTs [] [] e = some e := rfl
@[simp] theorem asg_c (i : Nat) (ts : List Tg) (d : D) (ds : List D) (e : Envd) : asgTs (.nm i :: ts) (d :: ds) e = asgTs ts ds (e.set i (some d)) := rfl
@[simp] theorem asg_ct (us ts : List Tg) (d : List D) (ds : List D) (e : Envd) : asgTs (.tp us :: ts) (.tup d :: ds) e = match asgTs us d e with
    | some e1 => asgTs ts ds e1
    | none => none := rfl
@[simp] theorem wipe_n (e : Envd) : wipeE e [] = e := rfl
@[simp] theorem wipe_c (v : Nat) (vs : List Nat) (e : Envd) : wipeE e (v :: vs) = (wipeE e vs).set v none := rfl
@[simp] theorem gcs_n (e : Envd) : getCs e [] = some [] := rfl
@[simp] theorem scs_n (ks : List D) (e : Envd) : setCs [] ks e = e := by cases ks <;> rfl
@[simp] theorem scs_c (i : Nat) (is : List Nat) (k : D) (ks : List D) (e : Envd) : setCs (i :: is) (k :: ks) e = setCs is ks (e.set i (some k)) := rfl
@[simp] theorem gcs_c (i : Nat) (is : List Nat) (e : Envd) : getCs e (i :: is) = match getV e i, getCs e is with
    | some k, some ks => some (k :: ks)
    | _, _ => none := rfl
@[simp] theorem ie_n : initE [] [] [] = some [] := rfl
@[simp] theorem ie_v (pk : List PK) (d : D) (ds ks : List D) : initE (.val :: pk) (d :: ds) ks = (initE pk ds ks).map (some d :: ·) := rfl
@[simp] theorem ie_b (pk : List PK) (d : D) (ds ks : List D) : initE (.bor :: pk) (d :: ds) ks = (initE pk ds ks).map (some d :: ·) := rfl
@[simp] theorem ie_c (pk : List PK) (k : D) (ds ks : List D) : initE (.cel :: pk) ds (k :: ks) = (initE pk ds ks).map (some k :: ·) := by cases ds <;> rfl
@[simp] theorem ci_n (n : Nat) : celIx [] n = [] := rfl
@[simp] theorem ci_v (pk : List PK) (n : Nat) : celIx (.val :: pk) n = celIx pk (n + 1) := rfl
@[simp] theorem ci_b (pk : List PK) (n : Nat) : celIx (.bor :: pk) n = celIx pk (n + 1) := rfl
@[simp] theorem ci_c (pk : List PK) (n : Nat) : celIx (.cel :: pk) n = n :: celIx pk (n + 1) := rfl
@[simp] theorem isO_l (l : List D) : isOb (.lst l) = true := rfl
@[simp] theorem isO_d (l : List (D × D)) : isOb (.dic l) = true := rfl
@[simp] theorem isi_1 (i : Int) : isiD (.int i) .int = some true := rfl
@[simp] theorem isi_2 (i : Int) : isiD (.int i) .bool = some false := rfl
@[simp] theorem isi_3 (i : Str) : isiD (.str i) .str = some true := rfl
@[simp] theorem isi_4 (i : List D) : isiD (.tup i) .tuple = some true := rfl
@[simp] theorem isi_5 (i : List D) : isiD (.lst i) .list = some true := rfl
@[simp] theorem isn_n : isNon .non = true := rfl
@[simp] theorem isn_t (l : List D) : isNon (.tup l) = false := rfl
@[simp] theorem isn_M (m : M) : isNon (dM m) = false := rfl
@[simp] theorem bl_b (b : Bool) : blD (.bl b) = some b := rfl
@[simp] theorem lstAt_l (e : Envd) (i : Nat) (l : List D) (h : getV e i = some (.lst l)) : lstAt e i = some () := by unfold lstAt; rw [h]
@[simp] theorem len_l (l : List D) : biD .len [.lst l] = some (.int l.length) := rfl
@[simp] theorem len_t (l : List D) : biD .len [.tup l] = some (.int l.length) := rfl
@[simp] theorem all_l (l : List Bool) : biD .all [.lst (l.map D.bl)] = some (.bl (l.all id)) := by
  show (blsOf (l.map D.bl)).map _ = _
  rw [blsOf_map]; rfl
@[simp] theorem tup_l (l : List D) : biD .tuple [.lst l] = some (.tup l) := rfl
@[simp] theorem lst_t (l : List D) : biD .list [.tup l] = some (.lst l) := rfl
@[simp] theorem lst_l (l : List D) : biD .list [.lst l] = some (.lst l) := rfl
theorem min_l (l : List Int) (h : l ≠ []) : biD .min [.lst (l.map D.int)] = some (.int (minI l)) := by
  show (intsOf (l.map D.int)).bind _ = _
  rw [intsOf_map]; simp [h]
theorem max_l (l : List Int) (h : l ≠ []) : biD .max [.lst (l.map D.int)] = some (.int (maxI l)) := by
  show (intsOf (l.map D.int)).bind _ = _
  rw [intsOf_map]; simp [h]
@[simp] theorem ins_l (ds : List D) (i : Int) (d : D) : insD (.lst ds) (.int i) d = if ds.length < LIM ∧ 0 ≤ i ∧ i ≤ ds.length then some (.lst (ds.take i.toNat ++ d :: ds.drop i.toNat)) else none := rfl
@[simp] theorem ext_l (ds es : List D) : extD (.lst ds) (.lst es) = if ds.length + es.length ≤ LIM then some (.lst (ds ++ es)) else none := rfl
@[simp] theorem app_l (ds : List D) (d : D) : appD (.lst ds) d = if ds.length < LIM then some (.lst (ds ++ [d])) else none := rfl
@[simp] theorem aug_a (i j : Int) : augD .Add (.int i) (.int j) = some (.int (i + j)) := rfl
@[simp] theorem aug_s (i j : Int) : augD .Sub (.int i) (.int j) = some (.int (i - j)) := rfl
@[simp] theorem en_l (ds : List D) : enumD (.lst ds) = some (enumF 0 ds) := rfl
@[simp] theorem en_t (ds : List D) : enumD (.tup ds) = some (enumF 0 ds) := rfl
@[simp] theorem zp_l (a b : List D) : zipD (.lst a) (.lst b) = some (zipF a b) := rfl
@[simp] theorem zp_t (a b : List D) : zipD (.tup a) (.tup b) = some (zipF a b) := rfl
@[simp] theorem lz_l (a b : List D) : lzD (.lst a) (.lst b) = some (.lst (zipF a b)) := rfl
@[simp] theorem sl_l (ds : List D) (lo hi : Option Int) : slD (.lst ds) lo hi = some (.lst (cutD ds lo hi)) := rfl
@[simp] theorem sl_t (ds : List D) (lo hi : Option Int) : slD (.tup ds) lo hi = some (.tup (cutD ds lo hi)) := rfl
@[simp] theorem cut_1 {α : Type} (xs : List α) : cutD xs (some 1) none = xs.drop 1 := cut_from xs 1
@[simp] theorem okEq_ii (i j : Int) : okEq (.int i) (.int j) = true := okEq_of rfl rfl (.inl (by simp))
theorem lim_num : LIM = 16777216 := rfl
theorem all_m {α : Type} (l : List α) (b : α → Bool) : biD .all [.lst (l.map fun q => D.bl (b q))] = some (.bl (l.all b)) := by
  have := all_l (l.map b)
  rw [List.map_map] at this
  rw [show (fun q => D.bl (b q)) = D.bl ∘ b from rfl, this, List.all_map]
  rfl
theorem zipF_M (l : List M) : zipF (l.map dM) ((l.map dM).drop 1) = (l.zip (l.drop 1)).map dP := by
  rw [← List.map_drop, zipF_zip]
  rfl
theorem tupsOf_M : ∀ l : List M, tupsOf (l.map dM) = some (l.map fun m => [m.1, m.2])
  | [] => rfl
  | m :: l => by
    rw [List.map_cons, dM, tupsOf]
    simp only [intsOf, Option.map_some, tupsOf_M l]
    rfl
theorem ddL_nd : ∀ {l : List (List Int)}, l.Nodup → ddL l = l
  | [], _ => rfl
  | a :: l, h => by
    obtain ⟨h1, h2⟩ := List.nodup_cons.mp h
    rw [ddL, if_neg h1, ddL_nd h2]
theorem lset_M {l : List M} (h : l.Nodup) (hl : l.length < 64) : lsetD (.lst (l.map dM)) = some (.int l.length) := by
  have nd : (l.map fun m => [m.1, m.2]).Nodup := by
    refine List.nodup_iff_pairwise_ne.mpr (List.pairwise_map.mpr ((List.nodup_iff_pairwise_ne.mp h).imp fun {a b} n e => n ?_))
    injection e with e1 e2
    injection e2 with e2 _
    exact Prod.ext e1 e2
  unfold lsetD
  simp only [tupsOf_M, List.length_map, hl, if_true, ddL_nd nd]
/-- neighbours in a list whose members stand so -/
theorem pw_zip {α : Type} {R : α → α → Prop} : ∀ {l : List α}, l.Pairwise R → ∀ p ∈ l.zip (l.drop 1), R p.1 p.2
  | [], _, p, h => by simp at h
  | [a], _, p, h => by simp at h
  | a :: b :: l, h, p, hp => by
    obtain ⟨h1, h2⟩ := List.pairwise_cons.mp h
    rw [List.drop_succ_cons, List.drop_zero, List.zip_cons_cons] at hp
    rcases List.mem_cons.mp hp with e | hp
    · rw [e]; exact h1 b List.mem_cons_self
    · exact pw_zip h2 p (by rw [List.drop_succ_cons, List.drop_zero]; exact hp)
theorem zipF_map {α : Type} (f : α → D) (l : List α) : zipF (l.map f) ((l.map f).drop 1) = (l.zip (l.drop 1)).map fun p => .tup [f p.1, f p.2] := by
  rw [← List.map_drop, zipF_zip]
theorem cut_to' {α : Type} (xs : List α) (i : Nat) : cutD xs none (some (i : Int)) = xs.take i := cut_to xs i
theorem cut_f1 {α : Type} (xs : List α) (i : Nat) : cutD xs (some ((i : Int) + 1)) none = xs.drop (i + 1) := cut_from xs (i + 1)
theorem rng_ok {f r : Nat} (h : f + r ≤ 1000) : rngD (.int f) (.int ((f : Int) + r)) = some (rngF f r) := by
  have e1 : ((f : Int) + r - f).toNat = r := by omega
  have b : (1000 : Int) < 2 ^ 62 := by decide
  have b2 : -(2 ^ 62 : Int) ≤ 0 := by decide
  unfold rngD
  simp only [e1]
  rw [if_pos]
  refine ⟨by omega, by omega, by omega, by omega, ?_⟩
  rw [lim_num]
  omega
theorem rng_0 {n : Nat} (h : n ≤ 100000) : rngD (.int 0) (.int n) = some (rngF 0 n) := by
  have e1 : ((n : Int) - 0).toNat = n := by omega
  have b : (100000 : Int) < 2 ^ 62 := by decide
  have b2 : -(2 ^ 62 : Int) ≤ 0 := by decide
  unfold rngD
  simp only [e1]
  rw [if_pos]
  refine ⟨by omega, by omega, by omega, by omega, ?_⟩
  rw [lim_num]
  omega
theorem eqD_nil {α : Type} (f : α → D) (l : List α) : eqD (.lst (l.map f)) (.lst []) = l.isEmpty := by
  rw [eq_ll, eqL_nil]
  cases l <;> rfl
@[simp] theorem cut_t1 {α : Type} (xs : List α) : cutD xs none (some 1) = xs.take 1 := cut_to xs 1
/-- a def of parameters by value, its end -/
theorem denF_rt {C : Cfg} {G : Gam} {pk : List PK} {body : List Sm} {ds ks ks' : List D} {e0 e' : Envd} {r : D} (h0 : initE pk ds ks = some e0) (h : denSs G body (e0 ++ List.replicate (C.N.length - pk.length) none) = some (.ok (.rt r), e')) (hk : getCs e' (celIx pk 0) = some ks') : denF C G pk body ds ks = some (.ok r, ks') := by
  unfold denF
  rw [h0]
  simp only [h, hk]
theorem denF_nx {C : Cfg} {G : Gam} {pk : List PK} {body : List Sm} {ds ks ks' : List D} {e0 e' : Envd} (h0 : initE pk ds ks = some e0) (h : denSs G body (e0 ++ List.replicate (C.N.length - pk.length) none) = some (.ok .nx, e')) (hk : getCs e' (celIx pk 0) = some ks') : denF C G pk body ds ks = some (.ok .non, ks') := by
  unfold denF
  rw [h0]
  simp only [h, hk]
@[simp] theorem d_tri (G : Gam) (x : E) (e : Envd) : denE G (.tri x) e = match denE G x e with
    | none => none
    | some (.ok d, e1) => some (.ok (.tup [.str "told", d]), e1)
    | some (.error y, e1) => pr ((G.tr y).map .str) e1 := rfl
@[simp] theorem d_fn (G : Gam) (j : Nat) (n : Str) (e : Envd) : denE G (.fn j n) e = some (.ok (.fn n), e) := rfl
@[simp] theorem d_callv (G : Gam) (i : Nat) (js : List (Nat × Str)) (es : Es) (e : Envd) : denE G (.callv i js es) e = bnd (pr ((getV e i).bind (fnAt js)) e) fun j e0 => bnd (denEs G es e0) fun ds e1 => match G.fn j ds [] with
    | none => none
    | some (r, _) => some (r, e1) := rfl
@[simp] theorem isi_n (t : Ty) : isiD .non t = some false := by cases t <;> rfl
@[simp] theorem isi_b1 (b : Bool) : isiD (.bl b) .bool = some true := rfl
@[simp] theorem isi_b2 (b : Bool) : isiD (.bl b) .int = some true := rfl
@[simp] theorem isi_b3 (b : Bool) : isiD (.bl b) .str = some false := rfl
@[simp] theorem isi_b4 (b : Bool) : isiD (.bl b) .tuple = some false := rfl
@[simp] theorem isi_b5 (b : Bool) : isiD (.bl b) .list = some false := rfl
@[simp] theorem isi_i3 (b : Int) : isiD (.int b) .str = some false := rfl
@[simp] theorem isi_i4 (b : Int) : isiD (.int b) .tuple = some false := rfl
@[simp] theorem isi_i5 (b : Int) : isiD (.int b) .list = some false := rfl
@[simp] theorem isi_s1 (b : Str) : isiD (.str b) .bool = some false := rfl
@[simp] theorem isi_s2 (b : Str) : isiD (.str b) .int = some false := rfl
@[simp] theorem isi_s4 (b : Str) : isiD (.str b) .tuple = some false := rfl
@[simp] theorem isi_s5 (b : Str) : isiD (.str b) .list = some false := rfl
@[simp] theorem isi_t1 (b : List D) : isiD (.tup b) .bool = some false := rfl
@[simp] theorem isi_t2 (b : List D) : isiD (.tup b) .int = some false := rfl
@[simp] theorem isi_t3 (b : List D) : isiD (.tup b) .str = some false := rfl
@[simp] theorem isi_t5 (b : List D) : isiD (.tup b) .list = some false := rfl
@[simp] theorem isi_l1 (b : List D) : isiD (.lst b) .bool = some false := rfl
@[simp] theorem isi_l2 (b : List D) : isiD (.lst b) .int = some false := rfl
@[simp] theorem isi_l3 (b : List D) : isiD (.lst b) .str = some false := rfl
@[simp] theorem isi_l4 (b : List D) : isiD (.lst b) .tuple = some false := rfl
@[simp] theorem mx_2 (i j : Int) : biD .max [.int i, .int j] = some (.int (if j > i then j else i)) := rfl
@[simp] theorem mn_2 (i j : Int) : biD .min [.int i, .int j] = some (.int (if j < i then j else i)) := rfl
@[simp] theorem isn_i (i : Int) : isNon (.int i) = false := rfl
@[simp] theorem isn_s (i : Str) : isNon (.str i) = false := rfl
@[simp] theorem isn_l (i : List D) : isNon (.lst i) = false := rfl
@[simp] theorem isn_b (i : Bool) : isNon (.bl i) = false := rfl
theorem trX_0 (exs : List Str) (j : Nat) {x : Str} (h : exs[j]? = some x) : trX exs ⟨j, none⟩ = some (x ++ ("+" : Str)) := by
  show ((exs[j]?).map fun x => x ++ ("+" : Str)) = _
  rw [h]
  rfl
end Rf

set_option maxRecDepth 100000
set_option maxHeartbeats 2000000
/-! N3: decks; comprehensions and loops that draw. -/
namespace Rf
open PySem PySem.Spec PyProof.Rows L2
abbrev Dk := Int × Int × Int
def dD (k : Dk) : D := .lst [.int k.1, .int k.2.1, .int k.2.2]
structure OkD (n : Nat) (k : Dk) : Prop where
  b0 : 0 ≤ k.2.1
  b1 : k.2.1 < 2 ^ 31
  c0 : 0 ≤ k.2.2
  c1 : k.2.2 ≤ n
theorem OkD.mono {n m : Nat} {k : Dk} (h : OkD n k) (e : n ≤ m) : OkD m k := ⟨h.b0, h.b1, h.c0, by have := h.c1; omega⟩
theorem stD_0 (a b c v : D) : stD (.lst [a, b, c]) (.int 0) v = some (.lst [v, b, c]) := rfl
theorem stD_2 (a b c v : D) : stD (.lst [a, b, c]) (.int 2) v = some (.lst [a, b, v]) := rfl
theorem stD_nat (l : List D) (i : Nat) (v : D) (h : i < l.length) : stD (.lst l) (.int i) v = some (.lst (l.set i v)) := by
  show (L2.ixN l.length i).map _ = _
  unfold L2.ixN
  rw [if_pos (by omega), if_pos (by omega)]
  rfl
variable {G : Gam}
/-- as comp_eq, what is walked is told of a draw -/
theorem comp_eqI {elt : E} {t : Tg} {it : It} {cs : Es} {own : List Nat} {α : Type} {enc : α → D} {e e1 : Envd} {xs : List α} (env : α → Envd) (p : α → Bool) (f : α → D)
    (hit : denIt G it e = some (.ok (xs.map enc), e1)) (ha : ∀ x ∈ xs, asgT t (enc x) (wipeE e1 own) = some (env x)) (hc : ∀ x ∈ xs, denCs G cs (env x) = some (.ok (p x), env x))
    (he : ∀ x ∈ xs, p x = true → denE G elt (env x) = some (.ok (f x), env x)) (hx : ∀ x ∈ xs, wipeE (env x) own = wipeE e1 own) :
    denE G (.comp elt t it cs own) e = some (.ok (.lst ((xs.filter p).map f)), e1) := by
  obtain ⟨e', g1, g2⟩ := compL_eq (own := own) (asg := asgT t) (cond := denCs G cs) (elt := denE G elt) (enc := enc) env p f xs e1 rfl ha hc he hx
  rw [d_comp, hit, bnd_ok]
  unfold cmD
  rw [g1]
  simp only
  rw [back_of_wipe g2]
/-- a comprehension whose condition draws -/
theorem compL_inv {own : List Nat} {asg : D → Envd → Option Envd} {cond : Envd → Rs Bool} {elt : Envd → Rs D} {α : Type} {enc : α → D} {f : α → D} (I : Nat → Envd → Prop) (B : Nat) :
    ∀ (xs : List α) (c : Nat) (e : Envd), c + xs.length ≤ B → I c e → (∀ c e x, x ∈ xs → c + 1 ≤ B → I c e → ∃ e1 b e2, asg (enc x) (wipeE e own) = some e1 ∧ cond e1 = some (.ok b, e2) ∧ I (c + 1) e2 ∧ (b = true → elt e2 = some (.ok (f x), e2))) →
      ∃ (ys : List α) (e' : Envd), ys.Sublist xs ∧ compL own asg cond elt (xs.map enc) e = some (ys.map f, e') ∧ I (c + xs.length) e'
  | [], c, e, _, h, _ => ⟨[], e, .slnil, rfl, h⟩
  | x :: xs, c, e, hB, h, step => by
    rw [List.length_cons] at hB
    obtain ⟨e1, b, e2, h1, h2, h3, h4⟩ := step c e x List.mem_cons_self (by omega) h
    obtain ⟨ys, e', g1, g2, g3⟩ := compL_inv I B xs (c + 1) e2 (by omega) h3 fun c e y hy => step c e y (List.mem_cons_of_mem _ hy)
    have ec : c + (x :: xs).length = c + 1 + xs.length := by rw [List.length_cons]; omega
    rw [ec]
    cases b with
    | false =>
      refine ⟨ys, e', .cons _ g1, ?_, g3⟩
      rw [List.map_cons, compL, h1]
      simp only [h2, g2]
    | true =>
      refine ⟨x :: ys, e', .cons_cons _ g1, ?_, g3⟩
      rw [List.map_cons, compL, h1]
      simp only [h2, h4 rfl, g2, List.map_cons]
theorem fr_count {t : Tg} {b : List Sm} {α : Type} {enc : α → D} (I : Nat → Envd → Prop) (d : Nat) (xs : List α) (c : Nat) (e : Envd) (h : I c e) (step : ∀ c e x, x ∈ xs → I c e → ∃ e1 e2, asgT t (enc x) e = some e1 ∧ denSs G b e1 = some (.ok .nx, e2) ∧ I (c + d) e2) :
    ∃ e', frD G t b (xs.map enc) e = some (.ok .nx, e') ∧ I (c + d * xs.length) e' := by
  obtain ⟨e', h1, h2⟩ := fr_fold (G := G) (t := t) (b := b) (enc := enc) I (fun c _ => c + d) xs c e h fun s e x hx hi => by
    obtain ⟨e1, e2, a, b, c⟩ := step s e x hx hi
    exact ⟨e1, e2, a, .inl b, c⟩
  refine ⟨e', h1, ?_⟩
  have : ∀ (xs : List α) (c : Nat), xs.foldl (fun c _ => c + d) c = c + d * xs.length := by
    intro xs
    induction xs with
    | nil => intro c; rfl
    | cons x xs ih => intro c; rw [List.foldl_cons, ih, List.length_cons, Nat.mul_add]; omega
  rw [this] at h2
  exact h2
def dKs (ns : List Int) : D := .dic (ns.map fun n => (.int n, .bl true))
theorem dPut_old {ns : List Int} {n : Int} (h : n ∈ ns) : dPut (ns.map fun n => (D.int n, D.bl true)) (.int n) (.bl true) = ns.map fun n => (D.int n, D.bl true) := by
  unfold dPut
  rw [if_pos (List.any_eq_true.mpr ⟨(.int n, .bl true), List.mem_map.mpr ⟨n, h, rfl⟩, by simp [keyEq]⟩), List.map_map]
  apply List.map_congr_left
  intro m _
  simp only [Function.comp]
  split <;> rfl
theorem dPut_new {ns : List Int} {n : Int} (h : n ∉ ns) : dPut (ns.map fun n => (D.int n, D.bl true)) (.int n) (.bl true) = (ns ++ [n]).map fun n => (D.int n, D.bl true) := by
  unfold dPut
  rw [if_neg ?_]
  · simp
  · rw [List.any_eq_true]
    rintro ⟨p, hp, hk⟩
    obtain ⟨m, hm, rfl⟩ := List.mem_map.mp hp
    simp only [keyEq, decide_eq_true_eq] at hk
    exact h (hk ▸ hm)
theorem stD_dic {ns : List Int} {n : Int} (hl : ns.length < 1000) : stD (dKs ns) (.int n) (.bl true) = some (dKs (if n ∈ ns then ns else ns ++ [n])) := by
  have : stD (dKs ns) (.int n) (.bl true) = (keyOf (.int n)).bind fun _ => if (ns.map fun n => (D.int n, D.bl true)).length < LIM then some (.dic (dPut (ns.map fun n => (D.int n, D.bl true)) (.int n) (.bl true))) else none := rfl
  rw [this]
  have hl2 : (ns.map fun n => (D.int n, D.bl true)).length < LIM := by rw [List.length_map, lim_num]; omega
  simp only [keyOf, Option.bind_some, if_pos hl2]
  by_cases h : n ∈ ns
  · rw [if_pos h, dPut_old h]; rfl
  · rw [if_neg h, dPut_new h]; rfl
theorem len_dKs (ns : List Int) : biD .len [dKs ns] = some (.int ns.length) := by
  show some (D.int ((ns.map fun n => (D.int n, D.bl true)).length : Nat)) = _
  rw [List.length_map]
theorem keysI_dKs : ∀ ns : List Int, keysI (ns.map fun n => (D.int n, D.bl true)) = some ns
  | [] => rfl
  | n :: ns => by rw [List.map_cons, keysI, keysI_dKs ns]; rfl
theorem sorted_dKs {ns : List Int} (h : ns.length < 64) : biD .sorted [dKs ns] = some (.lst ((srtI ns).map .int)) := by
  show (keysI (ns.map fun n => (D.int n, D.bl true))).bind _ = _
  rw [keysI_dKs]
  simp [h]
/-! ### marks put at rising places -/
def fillM : List (Nat × M) → List (Option M) → List (Option M)
  | [], sl => sl
  | z :: zs, sl => fillM zs (sl.set z.1 (some z.2))
theorem mks_all_none {l : List (Option M)} (h : mks l = []) : l = List.replicate l.length none := by
  induction l with
  | nil => rfl
  | cons o l ih =>
    cases o with
    | none =>
      rw [mks_none] at h
      rw [List.length_cons, List.replicate_succ, ← ih h]
    | some x => rw [mks_some] at h; cases h
theorem fillM_mks : ∀ (zs : List (Nat × M)) (b : Nat) (sl : List (Option M)), (zs.Pairwise fun a c => a.1 < c.1) → (∀ z ∈ zs, b ≤ z.1 ∧ z.1 < sl.length) → mks (sl.drop b) = [] → (fillM zs sl).length = sl.length ∧ mks (fillM zs sl) = mks sl ++ zs.map (·.2)
  | [], b, sl, _, _, _ => ⟨rfl, by simp [fillM]⟩
  | z :: zs, b, sl, hp, hb, hn => by
    obtain ⟨p1, p2⟩ := List.pairwise_cons.mp hp
    obtain ⟨b1, b2⟩ := hb z List.mem_cons_self
    have dn : mks (sl.drop z.1) = [] := by
      have e : sl.drop z.1 = (sl.drop b).drop (z.1 - b) := by rw [List.drop_drop]; congr 1; omega
      rw [e, mks_all_none hn, List.drop_replicate, mks_rep]
    have e1 : sl.set z.1 (some z.2) = sl.take z.1 ++ some z.2 :: sl.drop (z.1 + 1) := List.set_eq_take_append_cons_drop ▸ by rw [if_pos b2]
    have e2 : mks (sl.drop (z.1 + 1)) = [] := by
      have e : sl.drop (z.1 + 1) = (sl.drop z.1).drop 1 := by rw [List.drop_drop]
      rw [e, mks_all_none dn, List.drop_replicate, mks_rep]
    have e3 : mks sl = mks (sl.take z.1) := by
      have : mks sl = mks (sl.take z.1 ++ sl.drop z.1) := by rw [List.take_append_drop]
      rw [this, mks_app, dn, List.append_nil]
    have e4 : mks (sl.set z.1 (some z.2)) = mks sl ++ [z.2] := by rw [e1, mks_app, mks_some, e2, ← e3]
    obtain ⟨g1, g2⟩ := fillM_mks zs (z.1 + 1) (sl.set z.1 (some z.2)) p2 (fun y hy => by
      have := p1 y hy
      have := hb y (List.mem_cons_of_mem _ hy)
      rw [List.length_set]
      omega) (by rw [List.drop_set, if_pos (by omega)]; exact e2)
    refine ⟨by rw [fillM, g1, List.length_set], ?_⟩
    rw [fillM, g2, e4, List.map_cons, List.append_assoc]
    rfl
end Rf

set_option maxRecDepth 100000
set_option maxHeartbeats 2000000
/-! N4: a house changed (a slot, a mark, a shelf, a colour): what its sums become. -/
namespace Rf
open PySem PySem.Spec PyProof.Rows L2

/-! ### one run of free slots, longer or shorter -/
theorem gapG_stop (p : M → Bool) (x : M) (hx : p x = true) (Z Z' : List (Option M)) : ∀ (q : List (Option M)) (i f : Nat), gapG p (q ++ some x :: Z) i f = gapG p (q ++ some x :: Z') i f
  | [], i, f => by simp [gapG, hx]
  | none :: q, i, f => by rw [List.cons_append, List.cons_append, gapG, gapG]; exact gapG_stop p x hx Z Z' q _ _
  | some y :: q, i, f => by
    rw [List.cons_append, List.cons_append, gapG, gapG]
    split
    · rfl
    · exact gapG_stop p x hx Z Z' q _ _
theorem gapG_two (p : M → Bool) : ∀ (l : List (Option M)) (i f i' f' : Nat), f ≤ i → f' ≤ i' → i - f = i' - f' → (gapG p l i f).2 = (gapG p l i' f').2
  | [], i, f, i', f', _, _, h => h
  | none :: l, i, f, i', f', h1, h2, h => by rw [gapG, gapG]; exact gapG_two p l _ _ _ _ (by omega) (by omega) (by omega)
  | some y :: l, i, f, i', f', h1, h2, h => by
    rw [gapG, gapG]
    split
    · exact h
    · exact gapG_two p l _ _ _ _ (by omega) (by omega) (by omega)
/-- where a row's end stands: at a mark, or nothing -/
def EndM (pre : List (Option M)) : Prop := pre = [] ∨ ∃ q x, pre = q ++ [some x]
def BegM (post : List (Option M)) : Prop := post = [] ∨ ∃ x r, post = some x :: r
/-- a run of free slots: its length is the gap, or the gap is elsewhere -/
theorem gap_run (p : M → Bool) {pre post : List (Option M)} (hp : EndM pre) (hq : BegM post) :
    (∀ R, (gapG p (pre ++ (List.replicate R none ++ post)) 0 0).2 = R) ∨ (∃ k, ∀ R, (gapG p (pre ++ (List.replicate R none ++ post)) 0 0).2 = k) := by
  by_cases h1 : ∃ x, x ∈ mks pre ∧ p x = true
  · obtain ⟨x, hx, px⟩ := h1
    obtain ⟨q, r, rfl⟩ := List.append_of_mem (mks_mem.mp hx)
    refine .inr ⟨(gapG p (q ++ some x :: []) 0 0).2, fun R => ?_⟩
    rw [List.append_assoc, List.cons_append, gapG_stop p x px _ [] q 0 0]
  · have hl : ∀ x ∈ mks pre, p x = false := fun x hx => by
      cases e : p x with
      | false => rfl
      | true => exact absurd ⟨x, hx, e⟩ h1
    rcases hq with rfl | ⟨y, r, rfl⟩
    · exact .inl fun R => by rw [gap_of ⟨hp, hl, .inl rfl⟩]
    · cases e : p y with
      | true => exact .inl fun R => by rw [gap_of ⟨hp, hl, .inr ⟨y, r, rfl, e⟩⟩]
      | false =>
        refine .inr ⟨(gapG p r 0 0).2, fun R => ?_⟩
        rw [show pre ++ (List.replicate R none ++ some y :: r) = (pre ++ List.replicate R none) ++ some y :: r by simp, gapG_pre p y e r _ 0 0 (by simpa using hl)]
        exact gapG_two p r _ _ _ _ (Nat.le_refl _) (Nat.le_refl _) (by omega)
theorem run_l' : ∀ (n : Nat) (A : List (Option M)), A.length = n → ∃ pre a, A = pre ++ List.replicate a none ∧ EndM pre
  | 0, A, h => ⟨[], 0, by rw [List.eq_nil_of_length_eq_zero h]; rfl, .inl rfl⟩
  | n + 1, A, h => by
    rcases List.eq_nil_or_concat A with rfl | ⟨B, x, rfl⟩
    · cases h
    · cases x with
      | some m => exact ⟨B ++ [some m], 0, by simp, .inr ⟨B, m, rfl⟩⟩
      | none =>
        obtain ⟨pre, a, e, h2⟩ := run_l' n B (by simpa using h)
        exact ⟨pre, a + 1, by rw [e, List.replicate_succ']; simp, h2⟩
theorem run_l (A : List (Option M)) : ∃ pre a, A = pre ++ List.replicate a none ∧ EndM pre := run_l' _ A rfl
theorem run_r : ∀ (B : List (Option M)), ∃ b post, B = List.replicate b none ++ post ∧ BegM post
  | [] => ⟨0, [], rfl, .inl rfl⟩
  | some m :: B => ⟨0, some m :: B, rfl, .inr ⟨m, B, rfl⟩⟩
  | none :: B => by
    obtain ⟨b, post, e, h⟩ := run_r B
    exact ⟨b + 1, post, by rw [e, List.replicate_succ]; rfl, h⟩
/-- a free slot put in: no gap the less -/
def insN (sl : List (Option M)) (k : Nat) : List (Option M) := sl.take k ++ none :: sl.drop k
theorem insN_run (sl : List (Option M)) (k : Nat) : ∃ pre R post, sl = pre ++ (List.replicate R none ++ post) ∧ insN sl k = pre ++ (List.replicate (R + 1) none ++ post) ∧ EndM pre ∧ BegM post ∧ mks (sl.take k) = mks pre ∧ mks (sl.drop k) = mks post ∧ pre.length ≤ k ∧ k ≤ pre.length + R ∨ sl.length < k := by
  by_cases hk : sl.length < k
  · exact ⟨[], 0, [], .inr hk⟩
  · obtain ⟨pre, a, e1, h1⟩ := run_l (sl.take k)
    obtain ⟨b, post, e2, h2⟩ := run_r (sl.drop k)
    have hl : k = pre.length + a := by
      have := congrArg List.length e1
      simp only [List.length_take, List.length_append, List.length_replicate] at this
      omega
    refine ⟨pre, a + b, post, .inl ⟨?_, ?_, h1, h2, by rw [e1]; simp, by rw [e2]; simp, by omega, by omega⟩⟩
    · rw [← List.take_append_drop k sl, e1, e2, ← List.replicate_append_replicate]
      simp only [List.append_assoc]
    · unfold insN
      rw [e1, e2, show a + b + 1 = a + (b + 1) by omega, ← List.replicate_append_replicate, List.replicate_succ]
      simp
theorem insN_gap (sl : List (Option M)) {k : Nat} (hk : k ≤ sl.length) (low : M) : (gapAt sl low).2 ≤ (gapAt (insN sl k) low).2 := by
  obtain ⟨pre, R, post, h⟩ := insN_run sl k
  rcases h with ⟨e1, e2, h1, h2, _⟩ | h
  · unfold gapAt
    rw [e2, e1]
    rcases gap_run (lt low) h1 h2 with g | ⟨c, g⟩
    · rw [g, g]; omega
    · rw [g, g]; exact Nat.le_refl _
  · omega
/-- a mark taken out: no gap the less -/
def clr (sl : List (Option M)) (k : Nat) : List (Option M) := sl.take k ++ none :: sl.drop (k + 1)
theorem clr_gap {sl : List (Option M)} {k : Nat} {m low : M} (hm : sl[k]? = some (some m)) (hk : ∀ x ∈ mks sl, OkM x) (ha : Asc (mks sl)) (hlow : OkE low) : (gapAt sl low).2 ≤ (gapAt (clr sl k) low).2 := by
  obtain ⟨hlt, hg⟩ := List.getElem?_eq_some_iff.mp hm
  obtain ⟨pre, a, e1, h1⟩ := run_l (sl.take k)
  obtain ⟨b, post, e2, h2⟩ := run_r (sl.drop (k + 1))
  have es : sl = pre ++ (List.replicate a none ++ some m :: (List.replicate b none ++ post)) := by
    have := List.take_append_drop k sl
    rw [List.drop_eq_getElem_cons hlt, hg, e1, e2] at this
    rw [← this]
    simp
  have ec : clr sl k = pre ++ (List.replicate (a + 1 + b) none ++ post) := by
    unfold clr
    rw [e1, e2, show a + 1 + b = a + (b + 1) by omega, ← List.replicate_append_replicate, List.replicate_succ]
    simp
  have em : mks sl = mks pre ++ m :: mks post := by rw [es]; simp
  have hpos : ∀ x ∈ mks sl, 0 < x.2 := fun x hx => (hk x hx).c
  have hmm : m ∈ mks sl := by rw [em]; simp
  unfold gapAt
  by_cases g1 : ∃ x, x ∈ mks pre ∧ lt low x = true
  · obtain ⟨x, hx, px⟩ := g1
    obtain ⟨q, r, rfl⟩ := List.append_of_mem (mks_mem.mp hx)
    rw [ec, es, List.append_assoc, List.cons_append, List.append_assoc, List.cons_append]
    exact Nat.le_of_eq (congrArg Prod.snd (gapG_stop (lt low) x px _ _ q 0 0))
  · have hl : ∀ x ∈ mks pre, lt low x = false := fun x hx => by
      cases e : lt low x with
      | false => rfl
      | true => exact absurd ⟨x, hx, e⟩ g1
    have fin : post = [] ∨ (∃ y r, post = some y :: r ∧ lt low y = true) → (gapG (lt low) (clr sl k) 0 0).2 = a + 1 + b := fun z => by rw [ec, gap_of ⟨h1, hl, z⟩]
    have big : (post = [] ∨ (∃ y r, post = some y :: r ∧ lt low y = true)) ∨ ∃ y r, post = some y :: r ∧ lt low y = false := by
      rcases h2 with z | ⟨y, r, z⟩
      · exact .inl (.inl z)
      · cases e : lt low y with
        | true => exact .inl (.inr ⟨y, r, z, e⟩)
        | false => exact .inr ⟨y, r, z, e⟩
    cases pm : lt low m with
    | true =>
      have q1 : (gapG (lt low) sl 0 0).2 = a := by rw [es, gap_of ⟨h1, hl, .inr ⟨_, _, rfl, pm⟩⟩]
      rw [q1]
      rcases big with z | ⟨y, r, rfl, e⟩
      · rw [fin z]; omega
      · have hy : y ∈ mks sl := by rw [em]; simp
        rw [em] at ha
        have my : lt m y = true := (List.pairwise_cons.mp (List.pairwise_append.mp ha).2.1).1 y (by simp)
        rw [lt_tr hlow.c (hpos m hmm) (hpos y hy) pm my] at e
        cases e
    | false =>
      have d2 : EndM (pre ++ List.replicate a none ++ [some m]) := .inr ⟨_, _, rfl⟩
      have l2 : ∀ x ∈ mks (pre ++ List.replicate a none ++ [some m]), lt low x = false := fun x hx => by
        have hx2 : x ∈ mks pre ∨ x = m := by simpa using hx
        rcases hx2 with hx2 | rfl
        · exact hl x hx2
        · exact pm
      rcases big with z | ⟨y, r, rfl, e⟩
      · have q1 : (gapG (lt low) sl 0 0).2 = b := by
          rw [es, show pre ++ (List.replicate a none ++ some m :: (List.replicate b none ++ post)) = (pre ++ List.replicate a none ++ [some m]) ++ (List.replicate b none ++ post) by simp, gap_of ⟨d2, l2, z⟩]
        rw [q1, fin z]; omega
      · rw [ec, es, show pre ++ (List.replicate (a + 1 + b) none ++ some y :: r) = (pre ++ List.replicate (a + 1 + b) none) ++ some y :: r by simp,
          show pre ++ (List.replicate a none ++ some m :: (List.replicate b none ++ some y :: r)) = (pre ++ List.replicate a none ++ [some m] ++ List.replicate b none) ++ some y :: r by simp,
          gapG_pre (lt low) y e r _ 0 0 (fun x hx => l2 x (by simpa using hx)), gapG_pre (lt low) y e r _ 0 0 (by simpa using hl)]
        exact Nat.le_of_eq (gapG_two _ r _ _ _ _ (Nat.le_refl _) (Nat.le_refl _) (by omega))

/-! ### the lows -/
def lows (h : Ho) : List M := (0, 1) :: allM h
theorem zip_fst {α : Type} : ∀ (l : List α), (l.zip (l.drop 1)).map (·.1) = l.dropLast
  | [] => rfl
  | [a] => rfl
  | a :: b :: r => by
    have ih := zip_fst (b :: r)
    rw [List.drop_succ_cons, List.drop_zero] at ih ⊢
    rw [List.zip_cons_cons, List.map_cons, ih, List.dropLast_cons₂]
theorem strt_fst (h : Ho) : (strt h).map (·.1) = lows h := by
  unfold strt
  rw [zip_fst]
  unfold ends lows
  rw [show ((0, 1) : M) :: (allM h ++ [(1, 1)]) = ((0, 1) :: allM h) ++ [(1, 1)] from rfl, List.dropLast_concat]
theorem low_of {h : Ho} {s : M × M} (hs : s ∈ strt h) : s.1 ∈ lows h := by
  rw [← strt_fst]
  exact List.mem_map.mpr ⟨s, hs, rfl⟩
theorem low_ex {h : Ho} {x : M} (hx : x ∈ lows h) : ∃ s ∈ strt h, s.1 = x := by
  rw [← strt_fst] at hx
  obtain ⟨s, hs, e⟩ := List.mem_map.mp hx
  exact ⟨s, hs, e⟩
theorem lows_mem {h : Ho} {x : M} : x ∈ lows h ↔ x = (0, 1) ∨ x ∈ own h := by
  unfold lows
  rw [List.mem_cons, allM, ordM_mem]
theorem Vd.lowE {h : Ho} (V : Vd h) {x : M} (hx : x ∈ lows h) : OkE x := by
  refine V.okEnd (ends_mem.mpr ?_)
  rcases List.mem_cons.mp hx with e | e
  · exact .inl e
  · exact .inr (.inl e)
/-- what a colour is sure of -/
def colN (h : Ho) (c : Str) : Int := minI (((allS h).filter fun r => decide (r.1 = c)).map fun r => r.2.2)
theorem colL_mem {h : Ho} {c : Str} {x : Int} : x ∈ ((allS h).filter fun r => decide (r.1 = c)).map (fun r => r.2.2) ↔ c ∈ h.cs ∧ ∃ low ∈ lows h, x = sumAt h c low := by
  rw [List.mem_map]
  constructor
  · rintro ⟨r, hr, rfl⟩
    obtain ⟨h1, h2⟩ := List.mem_filter.mp hr
    obtain ⟨g1, g2, g3⟩ := allS_mem.mp h1
    have e := of_decide_eq_true h2
    rw [e] at g1 g3
    exact ⟨g1, r.2.1.1, low_of g2, g3⟩
  · rintro ⟨hc, low, hl, rfl⟩
    obtain ⟨s, hs, rfl⟩ := low_ex hl
    exact ⟨(c, s, sumAt h c s.1), List.mem_filter.mpr ⟨allS_mem.mpr ⟨hc, hs, rfl⟩, decide_eq_true rfl⟩, rfl⟩
theorem low0 (h : Ho) : ((0, 1) : M) ∈ lows h := List.mem_cons_self
theorem colL_ne {h : Ho} {c : Str} (hc : c ∈ h.cs) : ((allS h).filter fun r => decide (r.1 = c)).map (fun r => r.2.2) ≠ [] := by
  intro z
  have : sumAt h c (0, 1) ∈ ((allS h).filter fun r => decide (r.1 = c)).map (fun r => r.2.2) := colL_mem.mpr ⟨hc, _, low0 h, rfl⟩
  rw [z] at this
  cases this
theorem colN_le {h : Ho} {c : Str} {low : M} (hc : c ∈ h.cs) (hl : low ∈ lows h) : colN h c ≤ sumAt h c low := (minI_ok _ (colL_ne hc)).2 _ (colL_mem.mpr ⟨hc, low, hl, rfl⟩)
theorem colN_at {h : Ho} {c : Str} (hc : c ∈ h.cs) : ∃ low ∈ lows h, colN h c = sumAt h c low := (colL_mem.mp (minI_ok _ (colL_ne hc)).1).2
theorem sure_leL {h : Ho} {c : Str} {low : M} (hc : c ∈ h.cs) (hl : low ∈ lows h) : sure h ≤ sumAt h c low := by
  obtain ⟨s, hs, rfl⟩ := low_ex hl
  exact sure_le (fun z => by rw [z] at hc; cases hc) hc hs
theorem sure_atL {h : Ho} (hc0 : h.cs ≠ []) : ∃ c ∈ h.cs, ∃ low ∈ lows h, sure h = sumAt h c low := by
  obtain ⟨c, hc, s, hs, e⟩ := sure_at hc0
  exact ⟨c, hc, s.1, low_of hs, e⟩
theorem colN_mono {h h' : Ho} {c : Str} (hc : c ∈ h.cs) (hc' : c ∈ h'.cs) (g : ∀ low ∈ lows h', low ∈ lows h ∧ sumAt h c low ≤ sumAt h' c low) : colN h c ≤ colN h' c := by
  obtain ⟨low, hl, e⟩ := colN_at hc'
  obtain ⟨g1, g2⟩ := g low hl
  rw [e]
  exact Int.le_trans (colN_le hc g1) g2
theorem colN_add {h h' : Ho} {c : Str} {d : Int} (hc : c ∈ h.cs) (hc' : c ∈ h'.cs) (g : lows h' = lows h) (hs : ∀ low ∈ lows h, sumAt h' c low = sumAt h c low + d) : colN h' c = colN h c + d := by
  obtain ⟨low, hl, e⟩ := colN_at hc'
  obtain ⟨low2, hl2, e2⟩ := colN_at hc
  have h1 := colN_le (h := h) hc (g ▸ hl)
  have h2 := colN_le (h := h') hc' (g ▸ hl2 : low2 ∈ lows h')
  have h3 := hs low (g ▸ hl)
  have h4 := hs low2 hl2
  omega
theorem lows_own {h h' : Ho} (e : own h' = own h) : lows h' = lows h := by unfold lows allM; rw [e]

/-! ### a shelf put in another's place -/
def wAt (h : Ho) (k : Nat) (t : Sh) : Ho := { h with sh := h.sh.take k ++ t :: h.sh.drop (k + 1) }
theorem sh_dec {h : Ho} {k : Nat} {s : Sh} (hk : h.sh[k]? = some s) (t : Sh) : ∃ A B, h.sh = A ++ s :: B ∧ A.length = k ∧ wAt h k t = { h with sh := A ++ t :: B } := by
  obtain ⟨hlt, hg⟩ := List.getElem?_eq_some_iff.mp hk
  refine ⟨h.sh.take k, h.sh.drop (k + 1), ?_, by rw [List.length_take]; omega, rfl⟩
  rw [← hg, ← List.drop_eq_getElem_cons hlt, List.take_append_drop]
theorem sum_at3 (h : Ho) (A B : List Sh) (t : Sh) (c : Str) (low : M) : sumAt { h with sh := A ++ t :: B } c low = h.ps + ((A.map (shV c low)).sum + (shV c low t + (B.map (shV c low)).sum)) := by
  unfold sumAt
  simp
theorem own_at3 (h : Ho) (A B : List Sh) (t : Sh) : own { h with sh := A ++ t :: B } = (A.flatMap fun s => mks s.sl) ++ (mks t.sl ++ B.flatMap fun s => mks s.sl) := by
  unfold own
  simp
theorem wAt_own {h : Ho} {k : Nat} {s t : Sh} (hk : h.sh[k]? = some s) (hm : (mks t.sl).Sublist (mks s.sl)) : (own (wAt h k t)).Sublist (own h) := by
  obtain ⟨A, B, e, _, e2⟩ := sh_dec hk t
  have e3 : own h = own { h with sh := A ++ s :: B } := by rw [← e]
  rw [e2, e3, own_at3, own_at3]
  exact (List.Sublist.refl _).append (hm.append (List.Sublist.refl _))
theorem wAt_sum {h : Ho} {k : Nat} {s : Sh} (t : Sh) (hk : h.sh[k]? = some s) (c : Str) (low : M) : sumAt (wAt h k t) c low + shV c low s = sumAt h c low + shV c low t := by
  obtain ⟨A, B, e, _, e2⟩ := sh_dec hk t
  have e3 : sumAt h c low = sumAt { h with sh := A ++ s :: B } c low := by rw [← e]
  rw [e2, e3, sum_at3, sum_at3]
  omega
theorem wAt_mem {h : Ho} {k : Nat} {s t u : Sh} (hk : h.sh[k]? = some s) (hu : u ∈ (wAt h k t).sh) : u = t ∨ u ∈ h.sh := by
  obtain ⟨A, B, e, _, e2⟩ := sh_dec hk t
  rw [e2] at hu
  rw [e]
  rcases List.mem_append.mp hu with z | z
  · exact .inr (List.mem_append_left _ z)
  · rcases List.mem_cons.mp z with z | z
    · exact .inl z
    · exact .inr (List.mem_append_right _ (List.mem_cons_of_mem _ z))
theorem Vd.wAt {h : Ho} (V : Vd h) {k : Nat} {s t : Sh} (hk : h.sh[k]? = some s) (hn : t.nm = s.nm) (ht : t.tk.length ≤ 4 ∧ ∀ c ∈ t.tk, PyData.strOk c = true) (hl : 1 ≤ t.sl.length ∧ t.sl.length ≤ 20) (hm : (mks t.sl).Sublist (mks s.sl)) : Vd (wAt h k t) := by
  have hs : s ∈ h.sh := List.mem_of_getElem? hk
  have ow := wAt_own hk hm
  obtain ⟨A, B, e, _, e2⟩ := sh_dec hk t
  have hlen : (Rf.wAt h k t).sh.length = h.sh.length := by rw [e2, e]; simp
  refine ⟨by rw [hlen]; exact V.n5, V.ps0, V.ps1, V.cs0, V.cs4, V.csk, ?_, fun u hu => ?_, fun u hu => ?_, fun u hu => ?_, fun u hu m hm2 => ?_, fun u hu => ?_, ow.nodup V.nd, Nat.lt_of_le_of_lt ow.length_le V.few⟩
  · have p : (h.sh.map (·.nm)).Pairwise fun a b => a.cps.toList < b.cps.toList := List.pairwise_map.mpr V.nm
    have q : (Rf.wAt h k t).sh.map (·.nm) = h.sh.map (·.nm) := by rw [e2, e]; simp [hn]
    rw [← q] at p
    exact List.pairwise_map (f := fun t : Sh => t.nm) (R := fun a b : Str => a.cps.toList < b.cps.toList) |>.mp p
  · rcases wAt_mem hk hu with rfl | hu
    · rw [hn]; exact V.nmk s hs
    · exact V.nmk u hu
  · rcases wAt_mem hk hu with rfl | hu
    · exact ht
    · exact V.tkk u hu
  · rcases wAt_mem hk hu with rfl | hu
    · exact hl
    · exact V.s1 u hu
  · rcases wAt_mem hk hu with rfl | hu
    · exact V.mrk s hs m (hm.subset hm2)
    · exact V.mrk u hu m hm2
  · rcases wAt_mem hk hu with rfl | hu
    · exact List.Pairwise.sublist hm (V.asc s hs)
    · exact V.asc u hu
theorem wAt_col {h : Ho} {k : Nat} {s t : Sh} (hk : h.sh[k]? = some s) (hm : (mks t.sl).Sublist (mks s.sl)) {c : Str} (hc : c ∈ h.cs) (g : ∀ low ∈ lows h, shV c low s ≤ shV c low t) : colN h c ≤ colN (wAt h k t) c := by
  refine colN_mono hc hc fun low hl => ?_
  have h1 : low ∈ lows h := by
    rcases lows_mem.mp hl with e | e
    · exact lows_mem.mpr (.inl e)
    · exact lows_mem.mpr (.inr ((wAt_own hk hm).subset e))
  have := g low h1
  have := wAt_sum t hk c low
  exact ⟨h1, by omega⟩
end Rf

set_option maxRecDepth 100000
set_option maxHeartbeats 2000000
/-! N5: what can be spared, as plain lists. -/
namespace Rf
open PySem PySem.Spec PyProof.Rows L2
theorem withS_wAt {h : Ho} (V : Vd h) {k : Nat} {s : Sh} (hk : h.sh[k]? = some s) (sl : List (Option M)) : withS h s.nm sl = wAt h k { s with sl := sl } := by
  have hs : s ∈ h.sh := List.mem_of_getElem? hk
  obtain ⟨A, B, e, _, e2⟩ := sh_dec hk { s with sl := sl }
  rw [e2]
  unfold withS
  have p := V.nm
  rw [e] at p
  obtain ⟨p1, p2, p3⟩ := List.pairwise_append.mp p
  obtain ⟨p4, p5⟩ := List.pairwise_cons.mp p2
  have fA : A.map (fun u => if u.nm = s.nm then { u with sl := sl } else u) = A := by
    refine (List.map_congr_left fun u hu => ?_).trans (List.map_id A)
    have := p3 u hu s List.mem_cons_self
    rw [if_neg fun z => by rw [z] at this; exact List.lt_irrefl _ this]
    rfl
  have fB : B.map (fun u => if u.nm = s.nm then { u with sl := sl } else u) = B := by
    refine (List.map_congr_left fun u hu => ?_).trans (List.map_id B)
    have := p4 u hu
    rw [if_neg fun z => by rw [z] at this; exact List.lt_irrefl _ this]
    rfl
  rw [e, List.map_append, List.map_cons, fA, fB, if_pos rfl]
def rmv (sl : List (Option M)) (k : Nat) : List (Option M) := sl.take k ++ sl.drop (k + 1)
theorem rmv_mks {sl : List (Option M)} {k : Nat} (h : sl[k]? = some none) : mks (rmv sl k) = mks sl ∧ (rmv sl k).length + 1 = sl.length := by
  obtain ⟨hlt, hg⟩ := List.getElem?_eq_some_iff.mp h
  have e : sl = sl.take k ++ none :: sl.drop (k + 1) := by
    conv => lhs; rw [← List.take_append_drop k sl, List.drop_eq_getElem_cons hlt, hg]
  refine ⟨?_, ?_⟩
  · conv => rhs; rw [e]
    simp [rmv]
  · unfold rmv
    simp only [List.length_append, List.length_take, List.length_drop]
    omega
theorem insN_mks (sl : List (Option M)) (k : Nat) : mks (insN sl k) = mks sl := by
  unfold insN
  rw [mks_app, mks_none, ← mks_app, List.take_append_drop]
theorem insN_len {sl : List (Option M)} {k : Nat} (h : k ≤ sl.length) : (insN sl k).length = sl.length + 1 ∧ (insN sl k)[k]? = some none ∧ rmv (insN sl k) k = sl := by
  have hl : (sl.take k).length = k := by rw [List.length_take]; omega
  refine ⟨?_, ?_, ?_⟩
  · unfold insN
    simp only [List.length_append, List.length_take, List.length_cons, List.length_drop]
    omega
  · unfold insN
    rw [List.getElem?_append_right (by omega), hl, Nat.sub_self]
    rfl
  · unfold rmv insN
    have t1 : (sl.take k ++ none :: sl.drop k).take k = sl.take k := by
      conv => lhs; rw [show k = (sl.take k).length from hl.symm]
      rw [hl]
      exact List.take_left' hl
    have t2 : (sl.take k ++ none :: sl.drop k).drop (k + 1) = sl.drop k := by
      rw [← List.drop_drop, List.drop_left' hl]
      rfl
    rw [t1, t2, List.take_append_drop]
theorem Vd.rmv {h : Ho} (V : Vd h) {k : Nat} {s : Sh} (hk : h.sh[k]? = some s) {j : Nat} (hj : s.sl[j]? = some none) (h1 : 1 < s.sl.length) : Vd (withS h s.nm (rmv s.sl j)) := by
  have hs : s ∈ h.sh := List.mem_of_getElem? hk
  obtain ⟨e1, e2⟩ := rmv_mks hj
  rw [withS_wAt V hk]
  have := (V.s1 s hs).2
  exact V.wAt hk (t := { s with sl := Rf.rmv s.sl j }) rfl (V.tkk s hs) ⟨by simp only; omega, by simp only; omega⟩ (by simp only; rw [e1]; exact List.Sublist.refl _)
def spG (h : Ho) (s : Sh) (p : Option M × Nat) : Bool := decide (p.1 = none) && (decide (1 < s.sl.length) && decide (sure h ≤ sure (withS h s.nm (rmv s.sl p.2))))
def spSh (h : Ho) (s : Sh) : List An := ((s.sl.zipIdx 0).filter (spG h s)).map fun p => (s.nm, (p.2 : Int))
def spareL (h : Ho) : List An := h.sh.flatMap (spSh h)
theorem spare_mem {h : Ho} {s : Sh} (hs : s ∈ h.sh) {k : Nat} (hk : s.sl[k]? = some none) (h1 : 1 < s.sl.length) (g : sure h ≤ sure (withS h s.nm (rmv s.sl k))) : (s.nm, (k : Int)) ∈ spareL h := by
  refine List.mem_flatMap.mpr ⟨s, hs, List.mem_map.mpr ⟨(none, k), List.mem_filter.mpr ⟨?_, ?_⟩, rfl⟩⟩
  · obtain ⟨hlt, hg⟩ := List.getElem?_eq_some_iff.mp hk
    rw [List.mem_iff_getElem?]
    exact ⟨k, by rw [List.getElem?_zipIdx, hk]; simp⟩
  · simp [spG, h1, g]
/-- a house without a shelf -/
def wout (h : Ho) (nm : Str) : Ho := { h with sh := h.sh.filter fun s => decide (s.nm ≠ nm) }
def spareH (h : Ho) : List Str := (h.sh.filter fun s => decide (mks s.sl = []) && decide (sure h ≤ sure (wout h s.nm))).map (·.nm)
theorem flat_sub {α β : Type} {f : α → List β} {p : α → Bool} : ∀ l : List α, ((l.filter p).flatMap f).Sublist (l.flatMap f)
  | [] => .slnil
  | a :: l => by
    rw [List.filter_cons, List.flatMap_cons]
    split
    · rw [List.flatMap_cons]
      exact (List.Sublist.refl _).append (flat_sub l)
    · exact (flat_sub l).trans (List.sublist_append_right _ _)
theorem Vd.wout {h : Ho} (V : Vd h) (nm : Str) : Vd (wout h nm) := by
  have sub : (Rf.wout h nm).sh.Sublist h.sh := List.filter_sublist
  have m : ∀ {s : Sh}, s ∈ (Rf.wout h nm).sh → s ∈ h.sh := fun z => sub.subset z
  have ow : (own (Rf.wout h nm)).Sublist (own h) := flat_sub h.sh
  exact ⟨Nat.le_trans sub.length_le V.n5, V.ps0, V.ps1, V.cs0, V.cs4, V.csk, V.nm.sublist sub, fun s hs => V.nmk s (m hs), fun s hs => V.tkk s (m hs), fun s hs => V.s1 s (m hs), fun s hs => V.mrk s (m hs), fun s hs => V.asc s (m hs), ow.nodup V.nd, Nat.lt_of_le_of_lt ow.length_le V.few⟩
end Rf

set_option maxRecDepth 100000
set_option maxHeartbeats 2000000
/-! N6: a dict of pairs asked; what k22 says, over plain houses. -/
namespace Rf
open PySem PySem.Spec PyProof.Rows L2
theorem keyEq_s {d : D} {a : Str} : keyEq d (.str a) = true ↔ d = .str a := by
  cases d <;> simp [keyEq]
theorem dGet_put (a c : Str) (v : D) (ds : List (D × D)) : dGet (dPut ds (.str a) v) (.str c) = if a = c then some v else dGet ds (.str c) := by
  have mp : ∀ ds : List (D × D), (ds.any fun p => keyEq p.1 (.str a)) = true → dGet (ds.map fun p => if keyEq p.1 (.str a) = true then (p.1, v) else p) (.str c) = if a = c then some v else dGet ds (.str c) := by
    intro ds
    induction ds with
    | nil => intro h; simp at h
    | cons p ds ih =>
      intro h
      rw [List.map_cons]
      by_cases hp : keyEq p.1 (.str a) = true
      · rw [if_pos hp]
        have e := keyEq_s.mp hp
        by_cases hc : a = c
        · subst hc
          rw [if_pos rfl]
          simp [dGet, List.find?_cons, hp]
        · rw [if_neg hc]
          have hk : keyEq p.1 (.str c) = false := by rw [e]; simp [keyEq, hc]
          by_cases hr : (ds.any fun p => keyEq p.1 (.str a)) = true
          · have := ih hr
            rw [if_neg hc] at this
            simp only [dGet, List.find?_cons, hk] at this ⊢
            exact this
          · have : ds.map (fun p => if keyEq p.1 (.str a) = true then (p.1, v) else p) = ds := by
              refine (List.map_congr_left fun q hq => ?_).trans (List.map_id ds)
              rw [if_neg fun z => hr (List.any_eq_true.mpr ⟨q, hq, z⟩)]
              rfl
            rw [this]
            simp [dGet, List.find?_cons, hk]
      · have hp' : keyEq p.1 (.str a) = false := by simpa using hp
        rw [if_neg hp]
        have hr : (ds.any fun p => keyEq p.1 (.str a)) = true := by simpa [hp'] using h
        have := ih hr
        by_cases hk : keyEq p.1 (.str c) = true
        · have hac : a ≠ c := fun z => by subst z; exact hp hk
          rw [if_neg hac]
          simp [dGet, List.find?_cons, hk]
        · have hk' : keyEq p.1 (.str c) = false := by simpa using hk
          simp only [dGet, List.find?_cons, hk'] at this ⊢
          exact this
  unfold dPut
  split
  · rename_i h; exact mp ds h
  · rename_i h
    have hn : ∀ p ∈ ds, keyEq p.1 (.str a) = false := fun p hp => by
      cases e : keyEq p.1 (.str a) with
      | false => rfl
      | true => exact absurd (List.any_eq_true.mpr ⟨p, hp, e⟩) h
    unfold dGet
    rw [List.find?_append]
    by_cases hc : a = c
    · subst hc
      rw [if_pos rfl]
      have : ds.find? (fun p => keyEq p.1 (.str a)) = none := List.find?_eq_none.mpr fun p hp => by rw [hn p hp]; decide
      rw [this]
      simp [keyEq]
    · rw [if_neg hc]
      cases q : ds.find? fun p => keyEq p.1 (.str c) with
      | none => simp [keyEq, hc]
      | some p => simp
theorem dct_go (f : Str → D) : ∀ (l : List Str) (ds : List (D × D)), (∀ c v, dGet ds (.str c) = some v → v = f c) → ∀ c, (∀ v, dGet ((l.map fun c => (D.str c, f c)).foldl (fun a p => dPut a p.1 p.2) ds) (.str c) = some v → v = f c) ∧ ((c ∈ l ∨ (dGet ds (.str c)).isSome = true) → (dGet ((l.map fun c => (D.str c, f c)).foldl (fun a p => dPut a p.1 p.2) ds) (.str c)).isSome = true)
  | [], ds, h, c => ⟨fun v => h c v, fun z => z.elim (fun z => nomatch z) id⟩
  | a :: l, ds, h, c => by
    rw [List.map_cons, List.foldl_cons]
    have ih := dct_go f l (dPut ds (.str a) (f a)) (fun c v e => by
      rw [dGet_put] at e
      split at e
      · rename_i z; subst z; exact (Option.some.inj e).symm
      · exact h c v e) c
    refine ⟨ih.1, fun z => ih.2 ?_⟩
    rw [dGet_put]
    by_cases hc : a = c
    · rw [if_pos hc]; exact .inr rfl
    · rw [if_neg hc]
      rcases z with z | z
      · rcases List.mem_cons.mp z with z | z
        · exact absurd z.symm hc
        · exact .inl z
      · exact .inr z
theorem dct_at (f : Str → D) {l : List Str} {c : Str} (hc : c ∈ l) : dGet (dctOf (l.map fun c => (D.str c, f c))) (.str c) = some (f c) := by
  obtain ⟨h1, h2⟩ := dct_go f l [] (fun c v e => by simp [dGet] at e) c
  have := h2 (.inl hc)
  unfold dctOf
  cases q : dGet ((l.map fun c => (D.str c, f c)).foldl (fun a p => dPut a p.1 p.2) []) (.str c) with
  | none => rw [q] at this; cases this
  | some v => rw [h1 v q]
theorem prs_map (f : Str → D) : ∀ l : List Str, prsOf (l.map fun c => D.tup [.str c, f c]) = some (l.map fun c => (D.str c, f c))
  | [] => rfl
  | a :: l => by rw [List.map_cons, prsOf, prs_map f l]; rfl
theorem dict_map (f : Str → D) (l : List Str) : biD .dict [.lst (l.map fun c => D.tup [.str c, f c])] = some (.dic (dctOf (l.map fun c => (D.str c, f c)))) := by
  unfold biD
  simp only [prs_map]
  rfl
theorem ix_dct (f : Str → D) {l : List Str} {c : Str} (hc : c ∈ l) : ixD (.dic (dctOf (l.map fun c => (D.str c, f c)))) (.str c) = some (f c) := by
  show (keyOf (.str c)).bind (fun _ => dGet _ _) = _
  rw [dct_at f hc]
  rfl

theorem slot_gap {sl : List (Option M)} {j : Nat} (hj : j ≤ sl.length) (hk : ∀ z ∈ mks sl, OkM z) (hlow : ∀ z ∈ mks sl, z.2 ≤ 1000000000000000000) (ha : Asc (mks sl)) {x y : M} {Q R' : List M} (hA : ((0, 1) : M) :: mks (sl.take j) = Q ++ [x]) (hB : mks (sl.drop j) ++ [((1, 1) : M)] = y :: R') :
    OkM (mid (x, y)) ∧ mid (x, y) ∉ mks sl ∧ 0 < x.2 + y.2 ∧ x.2 + y.2 ≤ 2000000000000000000 ∧ ∃ R, (gapAt (insN sl j) (mid (x, y))).2 = R + 1 ∧ ∀ low, ((gapAt (insN sl j) low).2 = R + 1 ∧ (gapAt sl low).2 = R) ∨ (gapAt (insN sl j) low).2 = (gapAt sl low).2 := by
  have em : mks sl = mks (sl.take j) ++ mks (sl.drop j) := by rw [← mks_app, List.take_append_drop]
  have full : Asc (((0, 1) : M) :: (mks sl ++ [(1, 1)])) := by
    refine List.pairwise_cons.mpr ⟨fun z hz => ?_, List.pairwise_append.mpr ⟨ha, by simp, fun z hz w hw => ?_⟩⟩
    · rcases List.mem_append.mp hz with hz | hz
      · exact lt_0 (hk z hz)
      · rw [List.mem_singleton.mp hz]; decide
    · rw [List.mem_singleton.mp hw]
      exact lt_1 (hk z hz)
  have e1 : (((0, 1) : M) :: (mks sl ++ [(1, 1)])) = (Q ++ [x]) ++ (y :: R') := by
    rw [← hA, ← hB, em]
    simp
  have ok : ∀ z ∈ (((0, 1) : M) :: (mks sl ++ [(1, 1)])), OkE z ∧ z.2 ≤ 1000000000000000000 := fun z hz => by
    rcases List.mem_cons.mp hz with rfl | hz
    · exact ⟨okE_0, by decide⟩
    · rcases List.mem_append.mp hz with hz | hz
      · exact ⟨(hk z hz).toOkE, hlow z hz⟩
      · rw [List.mem_singleton.mp hz]
        exact ⟨okE_1, by decide⟩
  rw [e1] at full ok
  obtain ⟨f1, f2, f3⟩ := List.pairwise_append.mp full
  obtain ⟨f4, f5, f6⟩ := List.pairwise_append.mp f1
  have hxy : lt x y = true := f3 x (by simp) y (by simp)
  obtain ⟨okx, bx⟩ := ok x (by simp)
  obtain ⟨oky, by_⟩ := ok y (by simp)
  have p18 : (2000000000000000000 : Int) < 10 ^ 40 := by decide
  obtain ⟨m1, m2⟩ := mid_between (s := (x, y)) okx.c oky.c hxy
  have okm : OkM (mid (x, y)) := mid_ok (s := (x, y)) okx oky hxy (by simp only; omega)
  have cx := okx.c
  have cy := oky.c
  have below : ∀ z ∈ mks (sl.take j), lt (mid (x, y)) z = false := fun z hz => by
    have hz2 : z ∈ Q ++ [x] := by rw [← hA]; exact List.mem_cons_of_mem _ hz
    have hpz : 0 < z.2 := (hk z (by rw [em]; exact List.mem_append_left _ hz)).c
    rcases List.mem_append.mp hz2 with h | h
    · exact lt_asym (lt_tr hpz okx.c okm.c (f6 z h x (by simp)) m1)
    · rw [List.mem_singleton.mp h]
      exact lt_asym m1
  have above : ∀ z ∈ mks (sl.drop j), lt (mid (x, y)) z = true := fun z hz => by
    have hz2 : z ∈ y :: R' := by rw [← hB]; exact List.mem_append_left _ hz
    have hpz : 0 < z.2 := (hk z (by rw [em]; exact List.mem_append_right _ hz)).c
    rcases List.mem_cons.mp hz2 with h | h
    · rw [h]; exact m2
    · exact lt_tr okm.c oky.c hpz m2 ((List.pairwise_cons.mp f2).1 z h)
  refine ⟨okm, fun z => ?_, by omega, by omega, ?_⟩
  · rw [em] at z
    rcases List.mem_append.mp z with z | z
    · rcases List.mem_append.mp (show mid (x, y) ∈ Q ++ [x] by rw [← hA]; exact List.mem_cons_of_mem _ z) with h | h
      · have := lt_tr okm.c okx.c okm.c (f6 _ h x (by simp)) m1
        rw [lt_irr] at this
        cases this
      · have m3 : lt x (mid (x, y)) = true := m1
        rw [List.mem_singleton.mp h, lt_irr] at m3
        cases m3
    · have := above _ z
      rw [lt_irr] at this
      cases this
  · obtain ⟨pre, R, post, h⟩ := insN_run sl j
    rcases h with ⟨g1, g2, g3, g4, g5, g6, _⟩ | h
    · refine ⟨R, ?_, fun low => ?_⟩
      · unfold gapAt
        rw [g2, gap_of ⟨g3, fun z hz => below z (by rw [g5]; exact hz), ?_⟩]
        rcases g4 with h | ⟨z, r, h⟩
        · exact .inl h
        · exact .inr ⟨z, r, h, above z (by rw [g6, h]; simp)⟩
      · unfold gapAt
        rw [g2, g1]
        rcases gap_run (lt low) g3 g4 with g | ⟨c, g⟩
        · exact .inl ⟨g _, g _⟩
        · exact .inr (by rw [g, g])
    · omega

theorem at_last {α : Type} (Q : List α) (x : α) : L2.atI (Q ++ [x]) (-1) = some x := by
  unfold L2.atI L2.ixN
  rw [if_neg (by decide), if_pos (by simp only [List.length_append, List.length_cons, List.length_nil]; omega)]
  show (Q ++ [x])[(-1 + ((Q ++ [x]).length : Int)).toNat]? = some x
  have e : (-1 + ((Q ++ [x]).length : Int)).toNat = Q.length := by
    simp only [List.length_append, List.length_cons, List.length_nil]
    omega
  rw [e]
  simp
theorem sure_le_of {h h' : Ho} (e : own h' = own h) (ec : h'.cs = h.cs) (hc0 : h.cs ≠ []) (g : ∀ c ∈ h.cs, ∀ low ∈ lows h, sumAt h' c low ≤ sumAt h c low) : sure h' ≤ sure h := by
  obtain ⟨c, hc, low, hl, e2⟩ := sure_atL hc0
  rw [e2]
  exact Int.le_trans (sure_leL (h := h') (by rw [ec]; exact hc) (by rw [lows_own e]; exact hl)) (g c hc low hl)
theorem wAt_ownE {h : Ho} {k : Nat} {s t : Sh} (hk : h.sh[k]? = some s) (hm : mks t.sl = mks s.sl) : own (wAt h k t) = own h := by
  obtain ⟨A, B, e, _, e2⟩ := sh_dec hk t
  have e3 : own h = own { h with sh := A ++ s :: B } := by rw [← e]
  rw [e2, e3, own_at3, own_at3, hm]
theorem wAt_at {h : Ho} {k : Nat} {s : Sh} (t : Sh) (hk : h.sh[k]? = some s) : (wAt h k t).sh[k]? = some t := by
  obtain ⟨A, B, e, el, e2⟩ := sh_dec hk t
  rw [e2]
  show (A ++ t :: B)[k]? = some t
  rw [List.getElem?_append_right (by omega), el, Nat.sub_self]
  rfl
theorem wAt_wAt {h : Ho} {k : Nat} {s : Sh} (t u : Sh) (hk : h.sh[k]? = some s) : wAt (wAt h k t) k u = wAt h k u := by
  obtain ⟨A, B, e, el, e2⟩ := sh_dec hk t
  obtain ⟨A', B', e', el', e2'⟩ := sh_dec (wAt_at t hk) u
  rw [e2']
  have q : A' ++ t :: B' = A ++ t :: B := by rw [← e', e2]
  obtain ⟨q1, q2⟩ := List.append_inj q (by omega)
  have q3 : B' = B := by injection q2
  subst q1 q3
  unfold wAt
  rw [e, List.take_left' el]
  have : (A' ++ s :: B').drop (k + 1) = B' := by rw [← List.drop_drop, List.drop_left' el]; rfl
  rw [this]
theorem wAt_self {h : Ho} {k : Nat} {s : Sh} (hk : h.sh[k]? = some s) : wAt h k s = h := by
  obtain ⟨A, B, e, el, e2⟩ := sh_dec hk s
  rw [e2, ← e]
end Rf

set_option maxRecDepth 100000
set_option maxHeartbeats 2000000
/-! N7: marks moved, their order kept; calls in one stretch are alike. -/
namespace Rf
open PySem PySem.Spec PyProof.Rows L2
def mapS (g : M → M) (s : Sh) : Sh := { s with sl := s.sl.map (Option.map g) }
def mapHo (g : M → M) (h : Ho) : Ho := { h with sh := h.sh.map (mapS g) }
theorem mks_map (g : M → M) : ∀ sl : List (Option M), mks (sl.map (Option.map g)) = (mks sl).map g
  | [] => rfl
  | none :: r => by rw [List.map_cons, Option.map_none, mks_none, mks_none, mks_map g r]
  | some x :: r => by rw [List.map_cons, Option.map_some, mks_some, mks_some, mks_map g r]; rfl
theorem gap_map {p p' : M → Bool} {g : M → M} : ∀ {sl : List (Option M)} {i f : Nat}, (∀ x ∈ mks sl, p' (g x) = p x) → gapG p' (sl.map (Option.map g)) i f = gapG p sl i f
  | [], i, f, _ => rfl
  | none :: r, i, f, h => by
    rw [List.map_cons, Option.map_none, gapG, gapG]
    exact gap_map h
  | some x :: r, i, f, h => by
    rw [mks_some] at h
    rw [List.map_cons, Option.map_some, gapG, gapG, h x List.mem_cons_self]
    split
    · rfl
    · exact gap_map fun y hy => h y (List.mem_cons_of_mem _ hy)
theorem own_map (g : M → M) (h : Ho) : own (mapHo g h) = (own h).map g := by
  unfold own mapHo
  simp only [List.flatMap_map, List.map_flatMap]
  congr 1
  funext s
  exact mks_map g s.sl
theorem sum_map {g : M → M} {h : Ho} {low low' : M} (hc : ∀ x ∈ own h, lt low' (g x) = lt low x) (c : Str) : sumAt (mapHo g h) c low' = sumAt h c low := by
  unfold sumAt mapHo
  simp only [List.map_map]
  congr 2
  apply List.map_congr_left
  intro s hs
  show shV c low' (mapS g s) = shV c low s
  unfold shV mapS
  simp only
  unfold gapAt
  rw [gap_map fun x hx => hc x (own_mem.mpr ⟨s, hs, hx⟩)]
theorem sure_map {g : M → M} {h : Ho} (hc0 : h.cs ≠ []) (g0 : ∀ x ∈ own h, lt (0, 1) (g x) = lt (0, 1) x) (gg : ∀ x ∈ own h, ∀ y ∈ own h, lt (g y) (g x) = lt y x) : sure (mapHo g h) = sure h := by
  have cs : (mapHo g h).cs = h.cs := rfl
  apply Int.le_antisymm
  · obtain ⟨c, hc, low, hl, e⟩ := sure_atL (h := h) hc0
    rw [e]
    rcases lows_mem.mp hl with rfl | hy
    · rw [← sum_map (g := g) (low' := (0, 1)) g0 c]
      exact sure_leL (h := mapHo g h) hc (low0 _)
    · rw [← sum_map (g := g) (low' := g low) (fun x hx => gg x hx low hy) c]
      exact sure_leL (h := mapHo g h) hc (lows_mem.mpr (.inr (by rw [own_map]; exact List.mem_map.mpr ⟨low, hy, rfl⟩)))
  · obtain ⟨c, hc, low, hl, e⟩ := sure_atL (h := mapHo g h) hc0
    rw [e]
    rcases lows_mem.mp hl with rfl | hy
    · rw [sum_map (low := (0, 1)) g0 c]
      exact sure_leL (h := h) hc (low0 _)
    · rw [own_map] at hy
      obtain ⟨y, hy2, rfl⟩ := List.mem_map.mp hy
      rw [sum_map (low := y) (fun x hx => gg x hx y hy2) c]
      exact sure_leL (h := h) hc (lows_mem.mpr (.inr hy2))
/-- one mark in another's place -/
def swp (m m' : M) (x : M) : M := if x = m then m' else x
theorem swp_id {m m' : M} {sl : List (Option M)} (h : m ∉ mks sl) : sl.map (Option.map (swp m m')) = sl := by
  induction sl with
  | nil => rfl
  | cons o r ih =>
    cases o with
    | none => rw [List.map_cons, ih (by rw [mks_none] at h; exact h)]; rfl
    | some x =>
      rw [mks_some] at h
      have hx : ¬ x = m := fun z => h (by rw [z]; exact List.mem_cons_self)
      rw [List.map_cons, ih fun z => h (List.mem_cons_of_mem _ z), Option.map_some, swp, if_neg hx]
theorem swp_put {m m' : M} {sl : List (Option M)} (h : m ∉ mks sl) (k : Nat) : (put sl k m).map (Option.map (swp m m')) = put sl k m' := by
  have sub : ∀ {l : List (Option M)}, l.Sublist sl → m ∉ mks l := fun hl z => h ((hl.filterMap id).subset z)
  unfold put
  rw [List.map_append, List.map_cons, swp_id (sub (List.take_sublist _ _)), swp_id (sub (List.drop_sublist _ _)), Option.map_some, swp, if_pos rfl]
theorem mapHo_id {m m' : M} {h : Ho} (hn : m ∉ allM h) : h.sh.map (mapS (swp m m')) = h.sh := by
  have : ∀ s ∈ h.sh, mapS (swp m m') s = s := fun s hs => by
    unfold mapS
    rw [swp_id fun z => hn (allM_mem.mpr ⟨s, hs, z⟩)]
  rw [List.map_congr_left this]
  exact List.map_id' _
section
variable {h : Ho} {s : M × M} {m m' : M}
theorem Vd.alike2 (V : Vd h) (hs : s ∈ strt h) (hm : OkM m) (h1 : lt s.1 m = true) (h2 : lt m s.2 = true) (hm' : OkM m') (h1' : lt s.1 m' = true) (h2' : lt m' s.2 = true) {x : M} (hx : x ∈ allM h) : lt m' x = lt m x := by
  rw [← V.alike hs hm h1 h2 hx, ← V.alike hs hm' h1' h2' hx]
theorem Vd.ans_alike (V : Vd h) (hs : s ∈ strt h) (hm : OkM m) (h1 : lt s.1 m = true) (h2 : lt m s.2 = true) (hm' : OkM m') (h1' : lt s.1 m' = true) (h2' : lt m' s.2 = true) (c : Str) : answers h c m' = answers h c m := by
  unfold answers
  congr 1
  have : ∀ t ∈ h.sh, shA c m' t = shA c m t := fun t ht => by
    unfold shA
    have e : gapAt t.sl m' = gapAt t.sl m := gap_congr fun x hx => V.alike2 hs hm h1 h2 hm' h1' h2' (allM_mem.mpr ⟨t, ht, hx⟩)
    rw [e]
  rw [List.flatMap_def, List.flatMap_def, List.map_congr_left this]
theorem Vd.behind_swp (V : Vd h) {c : Str} (hn : m ∉ allM h) {a : An} (ha : a ∈ answers h c m) : Rf.behind h m' a = mapHo (swp m m') (Rf.behind h m a) := by
  rcases ans_mem.mp ha with ⟨rfl, hp⟩ | ⟨t, ht, hct, j, hj, rfl⟩
  · rw [behind_pass, behind_pass]
    unfold mapHo
    simp only
    rw [mapHo_id hn]
  · rw [V.behind_put ht, V.behind_put ht]
    unfold mapHo
    simp only [List.map_map]
    congr 1
    apply List.map_congr_left
    intro u hu
    simp only [Function.comp]
    by_cases e : u.nm = t.nm
    · rw [if_pos e, if_pos e]
      unfold mapS
      simp only
      rw [swp_put fun z => hn (allM_mem.mpr ⟨t, ht, z⟩)]
    · rw [if_neg e, if_neg e]
      unfold mapS
      rw [swp_id fun z => hn (allM_mem.mpr ⟨u, hu, z⟩)]
theorem Vd.sure_alike (V : Vd h) (hs : s ∈ strt h) (hm : OkM m) (h1 : lt s.1 m = true) (h2 : lt m s.2 = true) (hm' : OkM m') (h1' : lt s.1 m' = true) (h2' : lt m' s.2 = true) {c : Str} {a : An} (ha : a ∈ answers h c m) : sure (Rf.behind h m' a) = sure (Rf.behind h m a) := by
  have hn := V.new hs h1 h2
  have hn' := V.new hs h1' h2'
  rw [V.behind_swp (m' := m') hn ha]
  have mem : ∀ x ∈ own (Rf.behind h m a), x = m ∨ x ∈ allM h := fun x hx => by
    rcases ans_mem.mp ha with ⟨rfl, hp⟩ | ⟨t, ht, hct, j, hj, rfl⟩
    · rw [behind_pass] at hx
      exact .inr (ordM_mem.mpr hx)
    · rcases List.mem_cons.mp ((V.own_put ht hj).mem_iff.mp hx) with e | hx
      · exact .inl e
      · exact .inr (ordM_mem.mpr hx)
  have al : ∀ {x}, x ∈ allM h → lt m' x = lt m x := fun hx => V.alike2 hs hm h1 h2 hm' h1' h2' hx
  have ne : ∀ {x}, x ∈ allM h → x ≠ m := fun hx z => hn (z ▸ hx)
  have ne' : ∀ {x}, x ∈ allM h → x ≠ m' := fun hx z => hn' (z ▸ hx)
  have s1 : ∀ {x}, x ∈ allM h → swp m m' x = x := fun hx => if_neg (ne hx)
  have s2 : swp m m' m = m' := if_pos rfl
  have bcs : (Rf.behind h m a).cs ≠ [] := by
    have : (Rf.behind h m a).cs = h.cs := by
      unfold Rf.behind
      split <;> rfl
    rw [this]
    exact V.cs0
  refine sure_map bcs (fun x hx => ?_) fun x hx y hy => ?_
  · rcases mem x hx with e | hx'
    · rw [e, s2, lt_0 hm, lt_0 hm']
    · rw [s1 hx']
  · rcases mem x hx with e | hx'
    · rcases mem y hy with e2 | hy'
      · rw [e, e2, s2, lt_irr, lt_irr]
      · rw [e, s2, s1 hy', lt_tri (V.okA hy').toOkE hm'.toOkE (ne' hy'), lt_tri (V.okA hy').toOkE hm.toOkE (ne hy'), al hy']
    · rcases mem y hy with e2 | hy'
      · rw [e2, s2, s1 hx', al hx']
      · rw [s1 hx', s1 hy']
theorem Vd.less_alike (V : Vd h) (hs : s ∈ strt h) (hm : OkM m) (h1 : lt s.1 m = true) (h2 : lt m s.2 = true) (hm' : OkM m') (h1' : lt s.1 m' = true) (h2' : lt m' s.2 = true) (c : Str) : lessens h c m' = lessens h c m := by
  unfold lessens
  rw [V.ans_alike hs hm h1 h2 hm' h1' h2' c]
  congr 1
  apply propext
  constructor
  · intro H a ha
    rw [← V.sure_alike hs hm h1 h2 hm' h1' h2' ha]
    exact H a ha
  · intro H a ha
    rw [V.sure_alike hs hm h1 h2 hm' h1' h2' ha]
    exact H a ha
end
/-- between two ends -/
theorem btw_ok {l u : M} {i j : Int} (hl : OkE l) (hu : OkE u) (h : lt l u = true) (hi : 0 < i) (hj : 0 < j) (hb : i * l.2 + j * u.2 < 10 ^ 40) : OkM (red (i * l.1 + j * u.1) (i * l.2 + j * u.2)) ∧ lt l (red (i * l.1 + j * u.1) (i * l.2 + j * u.2)) = true ∧ lt (red (i * l.1 + j * u.1) (i * l.2 + j * u.2)) u = true ∧ 0 < i * l.2 + j * u.2 := by
  have lc := hl.c
  have uc := hu.c
  have p1 : 0 < i * l.2 := Int.mul_pos hi lc
  have p2 : 0 < j * u.2 := Int.mul_pos hj uc
  have pb : 0 < i * l.2 + j * u.2 := by omega
  rw [lt_iff] at h
  have h0 := Int.mul_lt_mul_of_pos_left h hj
  have h0' := Int.mul_lt_mul_of_pos_left h hi
  have a1 : lt l (red (i * l.1 + j * u.1) (i * l.2 + j * u.2)) = true := by
    rw [red_lt_left pb, decide_eq_true_iff, Int.mul_add, Int.add_mul]
    have e1 : l.1 * (i * l.2) = i * l.1 * l.2 := by ac_rfl
    have e2 : l.1 * (j * u.2) = j * (l.1 * u.2) := by ac_rfl
    have e3 : j * u.1 * l.2 = j * (u.1 * l.2) := by ac_rfl
    rw [e1, e2, e3]
    omega
  have a2 : lt (red (i * l.1 + j * u.1) (i * l.2 + j * u.2)) u = true := by
    rw [red_lt_right pb, decide_eq_true_iff, Int.mul_add, Int.add_mul]
    have e1 : u.1 * (j * u.2) = j * u.1 * u.2 := by ac_rfl
    have e2 : u.1 * (i * l.2) = i * (u.1 * l.2) := by ac_rfl
    have e3 : i * l.1 * u.2 = i * (l.1 * u.2) := by ac_rfl
    rw [e1, e2, e3]
    omega
  refine ⟨red_ok ?_ ?_ hb, a1, a2, pb⟩
  · have q1 : 0 ≤ i * l.1 := Int.mul_nonneg (by omega) hl.a
    have q2 : 0 ≤ j * u.1 := Int.mul_nonneg (by omega) hu.a
    have : 0 < u.1 := by
      rcases Int.lt_or_le 0 u.1 with z | z
      · exact z
      · have e : u.1 = 0 := by have := hu.a; omega
        rw [e, Int.zero_mul] at h
        have := Int.mul_nonneg hl.a (Int.le_of_lt uc)
        omega
    have := Int.mul_pos hj this
    omega
  · have q1 : i * l.1 ≤ i * l.2 := Int.mul_le_mul_of_nonneg_left hl.b (by omega)
    have q2 : j * u.1 ≤ j * u.2 := Int.mul_le_mul_of_nonneg_left hu.b (by omega)
    have : l.1 < l.2 := by
      rcases Int.lt_or_le l.1 l.2 with z | z
      · exact z
      · have e : l.1 = l.2 := by have := hl.b; omega
        rw [e] at h
        have := Int.mul_le_mul_of_nonneg_right hu.b (Int.le_of_lt lc)
        rw [Int.mul_comm l.2] at h
        omega
    have := Int.mul_lt_mul_of_pos_left this hi
    omega
end Rf

set_option maxRecDepth 100000
set_option maxHeartbeats 2000000
/-! N8: a mark lifted from its slot, another put there. -/
namespace Rf
open PySem PySem.Spec PyProof.Rows L2
theorem clr_sub (sl : List (Option M)) (k : Nat) : (mks (clr sl k)).Sublist (mks sl) := by
  unfold clr
  rw [mks_app, mks_none]
  have e : mks sl = mks (sl.take k) ++ mks (sl.drop k) := by rw [← mks_app, List.take_append_drop]
  rw [e]
  refine (List.Sublist.refl _).append ?_
  cases q : sl.drop k with
  | nil => rw [show sl.drop (k + 1) = (sl.drop k).drop 1 by rw [List.drop_drop], q]; simp
  | cons a r =>
    rw [show sl.drop (k + 1) = (sl.drop k).drop 1 by rw [List.drop_drop], q]
    cases a with
    | none => simp
    | some m => simp
theorem clr_ln {sl : List (Option M)} {k : Nat} (h : k < sl.length) : (clr sl k).length = sl.length := by
  unfold clr
  simp only [List.length_append, List.length_take, List.length_cons, List.length_drop]
  omega
theorem put_ln {sl : List (Option M)} {k : Nat} {x : M} (h : k < sl.length) : (put sl k x).length = sl.length := by
  unfold put
  simp only [List.length_append, List.length_take, List.length_cons, List.length_drop]
  omega
theorem put_take {sl : List (Option M)} {k : Nat} {x : M} (h : k < sl.length) : (put sl k x).take k = sl.take k := by
  unfold put
  have : (sl.take k).length = k := by rw [List.length_take]; omega
  exact List.take_left' this
theorem put_drop {sl : List (Option M)} {k : Nat} {x : M} (h : k < sl.length) : (put sl k x).drop (k + 1) = sl.drop (k + 1) := by
  unfold put
  have : (sl.take k).length = k := by rw [List.length_take]; omega
  rw [← List.drop_drop, List.drop_left' this]
  rfl
theorem put_get {sl : List (Option M)} {k : Nat} {x : M} (h : k < sl.length) : (put sl k x)[k]? = some (some x) := by
  unfold put
  have : (sl.take k).length = k := by rw [List.length_take]; omega
  rw [List.getElem?_append_right (by omega), this, Nat.sub_self]
  rfl
theorem put_mks (sl : List (Option M)) (k : Nat) (x : M) : mks (put sl k x) = mks (sl.take k) ++ x :: mks (sl.drop (k + 1)) := by simp [put]
theorem clr_mk (sl : List (Option M)) (k : Nat) : mks (clr sl k) = mks (sl.take k) ++ mks (sl.drop (k + 1)) := by simp [clr]
def lowB (l : List M) : M := l.getLastD (0, 1)
def highB (l : List M) : M := l.headD (1, 1)
theorem lowB_ge {l : List M} (ha : Asc l) : ∀ y ∈ l, y = lowB l ∨ lt y (lowB l) = true := by
  intro y hy
  rcases List.eq_nil_or_concat l with rfl | ⟨Q, x, rfl⟩
  · cases hy
  · simp only [List.concat_eq_append] at *
    have e : lowB (Q ++ [x]) = x := List.getLastD_concat ..
    rw [e]
    rcases List.mem_append.mp hy with h | h
    · exact .inr ((List.pairwise_append.mp ha).2.2 y h x List.mem_cons_self)
    · exact .inl (List.mem_singleton.mp h)
theorem highB_le {l : List M} (ha : Asc l) : ∀ y ∈ l, y = highB l ∨ lt (highB l) y = true := by
  intro y hy
  cases l with
  | nil => cases hy
  | cons x l =>
    rcases List.mem_cons.mp hy with h | h
    · exact .inl h
    · exact .inr ((List.pairwise_cons.mp ha).1 y h)
theorem lowB_mem (l : List M) : lowB l = (0, 1) ∨ lowB l ∈ l := by
  rcases List.eq_nil_or_concat l with rfl | ⟨Q, x, rfl⟩
  · exact .inl rfl
  · simp only [List.concat_eq_append] at *
    have e : lowB (Q ++ [x]) = x := List.getLastD_concat ..
    rw [e]
    exact .inr (by simp)
theorem highB_mem (l : List M) : highB l = (1, 1) ∨ highB l ∈ l := by
  cases l with
  | nil => exact .inl rfl
  | cons x l => exact .inr List.mem_cons_self
theorem low_at (l : List M) : (l.drop (l.length - 1) ++ [((0, 1) : M)])[0]? = some (lowB l) := by
  rcases List.eq_nil_or_concat l with rfl | ⟨Q, x, rfl⟩
  · rfl
  · simp only [List.concat_eq_append] at *
    have e : lowB (Q ++ [x]) = x := List.getLastD_concat ..
    rw [e]
    have e2 : (Q ++ [x]).length - 1 = Q.length := by simp
    rw [e2, List.drop_left]
    rfl
theorem high_at (l : List M) : (l.take 1 ++ [((1, 1) : M)])[0]? = some (highB l) := by
  cases l with
  | nil => rfl
  | cons x l => rfl
theorem low_last {l Q : List M} {x : M} (h : ((0, 1) : M) :: l = Q ++ [x]) : lowB l = x := by
  have a : (((0, 1) : M) :: l).getLastD (0, 1) = lowB l := List.getLastD_cons ..
  rw [← a, h]
  exact List.getLastD_concat ..
def bareA (h : Ho) (i : Nat) (s : Sh) (k : Nat) : Ho := wAt h i { s with sl := clr s.sl k }
def seatA (h : Ho) (i : Nat) (s : Sh) (k : Nat) (x : M) : Ho := wAt h i { s with sl := put s.sl k x }
section
variable {h : Ho} {i : Nat} {s : Sh} {k : Nat}
theorem Vd.bareA (V : Vd h) (hi : h.sh[i]? = some s) (hk : k < s.sl.length) : Vd (bareA h i s k) :=
  V.wAt hi (t := { s with sl := clr s.sl k }) rfl (V.tkk s (List.mem_of_getElem? hi)) (by have := V.s1 s (List.mem_of_getElem? hi); simp only; rw [clr_ln hk]; exact this) (clr_sub _ _)
theorem bare_own (hi : h.sh[i]? = some s) : (own (bareA h i s k)).Sublist (own h) := wAt_own (t := { s with sl := clr s.sl k }) hi (clr_sub _ _)
theorem seat_own (hi : h.sh[i]? = some s) (x : M) : (own (seatA h i s k x)).Perm (x :: own (bareA h i s k)) := by
  obtain ⟨A, B, e, _, e2⟩ := sh_dec hi { s with sl := put s.sl k x }
  obtain ⟨A', B', e', el', e2'⟩ := sh_dec hi { s with sl := clr s.sl k }
  have hA : A' = A ∧ B' = B := by
    rw [e] at e'
    have l1 : A.length = A'.length := by omega
    obtain ⟨a1, a2⟩ := List.append_inj e' l1
    cases a2
    exact ⟨a1.symm, rfl⟩
  obtain ⟨rfl, rfl⟩ := hA
  unfold seatA bareA
  rw [e2, e2', own_at3, own_at3]
  simp only
  rw [put_mks, clr_mk]
  have p1 : ((mks (s.sl.take k) ++ x :: mks (s.sl.drop (k + 1))) ++ B'.flatMap fun s => mks s.sl).Perm (x :: ((mks (s.sl.take k) ++ mks (s.sl.drop (k + 1))) ++ B'.flatMap fun s => mks s.sl)) := by
    rw [List.append_assoc, List.append_assoc, List.cons_append]
    exact List.perm_middle
  exact (p1.append_left _).trans List.perm_middle
theorem Vd.seatA (V : Vd h) (hi : h.sh[i]? = some s) (hk : k < s.sl.length) {x : M} (hx : OkM x) (h1 : lt (lowB (mks (s.sl.take k))) x = true) (h2 : lt x (highB (mks (s.sl.drop (k + 1)))) = true) (hn : x ∉ own (Rf.bareA h i s k)) (hf : (own (Rf.bareA h i s k)).length + 1 < 64) : Vd (Rf.seatA h i s k x) := by
  have hs : s ∈ h.sh := List.mem_of_getElem? hi
  have V0 := V.bareA hi hk
  have po := seat_own (k := k) hi x
  have st : (mks (s.sl.take k)).Sublist (mks s.sl) := (List.take_sublist _ _).filterMap _
  have sd : (mks (s.sl.drop (k + 1))).Sublist (mks s.sl) := (List.drop_sublist _ _).filterMap _
  have a1 : Asc (mks (s.sl.take k)) := List.Pairwise.sublist st (V.asc s hs)
  have a2 : Asc (mks (s.sl.drop (k + 1))) := List.Pairwise.sublist sd (V.asc s hs)
  have ok : ∀ y ∈ mks s.sl, OkM y := V.mrk s hs
  have lo : OkE (lowB (mks (s.sl.take k))) := by
    rcases lowB_mem (mks (s.sl.take k)) with e | e
    · rw [e]; exact okE_0
    · exact (ok _ (st.subset e)).toOkE
  have hg : OkE (highB (mks (s.sl.drop (k + 1)))) := by
    rcases highB_mem (mks (s.sl.drop (k + 1))) with e | e
    · rw [e]; exact okE_1
    · exact (ok _ (sd.subset e)).toOkE
  have f1 : ∀ y ∈ mks (s.sl.take k), lt y x = true := fun y hy => by
    rcases lowB_ge a1 y hy with e | e
    · rw [e]; exact h1
    · exact lt_tr (ok y (st.subset hy)).c lo.c hx.c e h1
  have f2 : ∀ y ∈ mks (s.sl.drop (k + 1)), lt x y = true := fun y hy => by
    rcases highB_le a2 y hy with e | e
    · rw [e]; exact h2
    · exact lt_tr hx.c hg.c (ok y (sd.subset hy)).c h2 e
  obtain ⟨t, ht⟩ : ∃ t : Sh, t = { s with sl := put s.sl k x } := ⟨_, rfl⟩
  have tnm : t.nm = s.nm := by rw [ht]
  have ttk : t.tk = s.tk := by rw [ht]
  have tsl : t.sl = put s.sl k x := by rw [ht]
  have es : Rf.seatA h i s k x = Rf.wAt h i t := by rw [ht]; rfl
  have nd : (own (Rf.seatA h i s k x)).Nodup := po.nodup_iff.mpr (List.nodup_cons.mpr ⟨hn, V0.nd⟩)
  have fw : (own (Rf.seatA h i s k x)).length < 64 := by rw [po.length_eq, List.length_cons]; exact hf
  rw [es] at nd fw ⊢
  obtain ⟨A, B, e, _, e2⟩ := sh_dec hi t
  have hlen : (Rf.wAt h i t).sh.length = h.sh.length := by rw [e2, e]; simp
  refine ⟨by rw [hlen]; exact V.n5, V.ps0, V.ps1, V.cs0, V.cs4, V.csk, ?_, fun u hu => ?_, fun u hu => ?_, fun u hu => ?_, fun u hu m hm2 => ?_, fun u hu => ?_, nd, fw⟩
  · have p : (h.sh.map (·.nm)).Pairwise fun a b => a.cps.toList < b.cps.toList := List.pairwise_map.mpr V.nm
    have q : (Rf.wAt h i t).sh.map (·.nm) = h.sh.map (·.nm) := by rw [e2, e]; simp [tnm]
    rw [← q] at p
    exact List.pairwise_map (f := fun t : Sh => t.nm) (R := fun a b : Str => a.cps.toList < b.cps.toList) |>.mp p
  · rcases wAt_mem hi hu with rfl | hu
    · rw [tnm]; exact V.nmk s hs
    · exact V.nmk u hu
  · rcases wAt_mem hi hu with rfl | hu
    · rw [ttk]; exact V.tkk s hs
    · exact V.tkk u hu
  · rcases wAt_mem hi hu with rfl | hu
    · rw [tsl, put_ln hk]; exact V.s1 s hs
    · exact V.s1 u hu
  · rcases wAt_mem hi hu with rfl | hu
    · rw [tsl, put_mks] at hm2
      rcases List.mem_append.mp hm2 with z | z
      · exact ok m (st.subset z)
      · rcases List.mem_cons.mp z with z | z
        · rw [z]; exact hx
        · exact ok m (sd.subset z)
    · exact V.mrk u hu m hm2
  · rcases wAt_mem hi hu with rfl | hu
    · rw [tsl, put_mks]
      refine List.pairwise_append.mpr ⟨a1, List.pairwise_cons.mpr ⟨f2, a2⟩, fun a ha b hb => ?_⟩
      rcases List.mem_cons.mp hb with rfl | hb
      · exact f1 a ha
      · exact lt_tr (ok a (st.subset ha)).c hx.c (ok b (sd.subset hb)).c (f1 a ha) (f2 b hb)
    · exact V.asc u hu
theorem seat_at (hi : h.sh[i]? = some s) (x : M) : (seatA h i s k x).sh[i]? = some { s with sl := put s.sl k x } := wAt_at _ hi
theorem seat_bare (hi : h.sh[i]? = some s) (hk : k < s.sl.length) (x : M) : bareA (seatA h i s k x) i { s with sl := put s.sl k x } k = bareA h i s k := by
  unfold bareA seatA
  rw [wAt_wAt _ _ hi]
  simp only [clr, put_take hk, put_drop hk]
theorem seat_seat (hi : h.sh[i]? = some s) (hk : k < s.sl.length) (x y : M) : seatA (seatA h i s k x) i { s with sl := put s.sl k x } k y = seatA h i s k y := by
  unfold seatA
  rw [wAt_wAt _ _ hi]
  have e : put (put s.sl k x) k y = put s.sl k y := by
    show (put s.sl k x).take k ++ some y :: (put s.sl k x).drop (k + 1) = _
    rw [put_take hk, put_drop hk]
    rfl
  simp only [e]
def whereL (h : Ho) (i : Nat) (s : Sh) (k : Nat) (more : Int) : List (M × M) := (strt (bareA h i s k)).filter fun t => !lt t.1 (lowB (mks (s.sl.take k))) && (!lt (highB (mks (s.sl.drop (k + 1)))) t.2 && decide (more ≤ sure (seatA h i s k (mid t))))
theorem where_seat (hi : h.sh[i]? = some s) (hk : k < s.sl.length) (x : M) (more : Int) : whereL (seatA h i s k x) i { s with sl := put s.sl k x } k more = whereL h i s k more := by
  unfold whereL
  rw [seat_bare hi hk]
  simp only [put_take hk, put_drop hk, seat_seat hi hk]
/-- what lies between the ends of a stretch that lies between the neighbours -/
theorem Vd.between (V : Vd h) (hi : h.sh[i]? = some s) (hk : k < s.sl.length) {t : M × M} (ht : t ∈ strt (Rf.bareA h i s k)) (n1 : lt t.1 (lowB (mks (s.sl.take k))) = false) (n2 : lt (highB (mks (s.sl.drop (k + 1)))) t.2 = false) {x : M} (hx : OkM x) (g1 : lt t.1 x = true) (g2 : lt x t.2 = true) :
    lt (lowB (mks (s.sl.take k))) x = true ∧ lt x (highB (mks (s.sl.drop (k + 1)))) = true := by
  have hs : s ∈ h.sh := List.mem_of_getElem? hi
  have V0 := V.bareA hi hk
  obtain ⟨a1, a2, _, _⟩ := V0.str.mp ht
  have o1 := V0.okEnd a1
  have o2 := V0.okEnd a2
  have st : (mks (s.sl.take k)).Sublist (mks s.sl) := (List.take_sublist _ _).filterMap _
  have sd : (mks (s.sl.drop (k + 1))).Sublist (mks s.sl) := (List.drop_sublist _ _).filterMap _
  have ok : ∀ y ∈ mks s.sl, OkM y := V.mrk s hs
  have lo : OkE (lowB (mks (s.sl.take k))) := by
    rcases lowB_mem (mks (s.sl.take k)) with e | e
    · rw [e]; exact okE_0
    · exact (ok _ (st.subset e)).toOkE
  have hg : OkE (highB (mks (s.sl.drop (k + 1)))) := by
    rcases highB_mem (mks (s.sl.drop (k + 1))) with e | e
    · rw [e]; exact okE_1
    · exact (ok _ (sd.subset e)).toOkE
  constructor
  · by_cases e : t.1 = lowB (mks (s.sl.take k))
    · rw [← e]; exact g1
    · have := lt_tri o1 lo e
      rw [n1] at this
      have : lt (lowB (mks (s.sl.take k))) t.1 = true := by simpa using this.symm
      exact lt_tr lo.c o1.c hx.c this g1
  · by_cases e : highB (mks (s.sl.drop (k + 1))) = t.2
    · rw [e]; exact g2
    · have := lt_tri hg o2 e
      rw [n2] at this
      have : lt t.2 (highB (mks (s.sl.drop (k + 1)))) = true := by simpa using this.symm
      exact lt_tr hx.c o2.c hg.c g2 this
end
end Rf

set_option maxRecDepth 100000
set_option maxHeartbeats 2000000
/-! Rf28: from the head's facts to the defs' promises, one behind the other. -/
namespace Rf
open PySem PySem.Spec PyProof.Rows L2
variable [TN]

def isFree : He.Fa → Str → Bool
  | .free x, n => decide (x = n)
  | _, _ => false
def isExc : He.Fa → Str → Bool
  | .exc x, n => decide (x = n)
  | _, _ => false
def isGlo : He.Fa → Str → Bool
  | .glo x, n => decide (x = n)
  | _, _ => false
def caX (K : PySem.W.Frag) (exs : List Str) (j : Nat) : Addr := He.ga K (exs.getD j "")
section
variable {P : Program} {w : World} {K : PySem.W.Frag} {mg : Str → Option Value} {base : Heap} {ca : Nat → Addr} {cf : Nat → Str}
variable (P w K mg base ca cf) in
def St (I : FnI) (f : FnV) (k : Nat) : Prop := ∃ (fa : Addr) (fd : FuncData) (ps : List Str) (j' : Nat), (mg I.name = some (.ref fa) ∧ fa = He.ga K I.name) ∧ PySem.W.keepIn K (.ref fa) = true ∧ Binds K fd ps [] ∧ FnOk P w K mg base (L2N.CX P w) j' fa fd ps (spF K ca cf I.pk I.fresh f) ∧ j' ≤ k
theorem St.mono {I : FnI} {f : FnV} {j k : Nat} (h : St P w K mg base ca cf I f j) (hk : j ≤ k := by decide) : St P w K mg base ca cf I f k := by
  obtain ⟨fa, fd, ps, j', a, b, c, d, e⟩ := h
  exact ⟨fa, fd, ps, j', a, b, c, d, Nat.le_trans e hk⟩
variable (P w K mg base ca cf) in
inductive AllSt (k : Nat) : List FnI → List FnV → Prop
  | nil : AllSt k [] []
  | cons {I : FnI} {f : FnV} {Is : List FnI} {fs : List FnV} {j : Nat} : St P w K mg base ca cf I f j → j ≤ k → AllSt k Is fs → AllSt k (I :: Is) (f :: fs)
theorem AllSt.get {k : Nat} : ∀ {Is : List FnI} {fs : List FnV}, AllSt P w K mg base ca cf k Is fs → ∀ {j : Nat} {I : FnI}, Is[j]? = some I → St P w K mg base ca cf I (fs.getD j fun _ _ => none) k
  | _, _, .nil, j, I, h => by simp at h
  | _, _, .cons a b c, 0, I, h => by
    have e := Option.some.inj (show some _ = some I from h)
    subst e
    exact a.mono b
  | _, _, .cons a b c, j + 1, I, h => by
    have h2 : _ := AllSt.get c (j := j) (I := I) (by simpa using h)
    simpa using h2
variable (K mg) in
def GcT (n : Str) (d : D) : Prop := ∃ u v, mg n = some u ∧ RelV v u ∧ Rep K (fun _ => True) (fun _ => none) d v
variable (K mg) in
inductive AllG : List Str → List D → Prop
  | nil : AllG [] []
  | cons {n : Str} {d : D} {ns : List Str} {ds : List D} : GcT K mg n d → AllG ns ds → AllG (n :: ns) (d :: ds)
theorem AllG.get : ∀ {ns : List Str} {ds : List D}, AllG K mg ns ds → ∀ {j : Nat} {n : Str} {d : D}, ns[j]? = some n → ds[j]? = some d → GcT K mg n d
  | _, _, .nil, _, _, _, h, _ => by simp at h
  | _, _, .cons a b, 0, n, d, h, h2 => by
    simp at h h2
    subst h h2
    exact a
  | _, _, .cons a b, j + 1, n, d, h, h2 => AllG.get b (j := j) (by simpa using h) (by simpa using h2)
theorem any_free {fa : List He.Fa} {n : Str} (h : fa.any (isFree · n) = true) : He.Fa.free n ∈ fa := by
  obtain ⟨f, h1, h2⟩ := List.any_eq_true.mp h
  cases f <;> first | (cases h2; done) | skip
  have e := of_decide_eq_true h2
  rw [← e]
  exact h1
theorem any_exc {fa : List He.Fa} {n : Str} (h : fa.any (isExc · n) = true) : He.Fa.exc n ∈ fa := by
  obtain ⟨f, h1, h2⟩ := List.any_eq_true.mp h
  cases f <;> first | (cases h2; done) | skip
  have e := of_decide_eq_true h2
  rw [← e]
  exact h1
theorem any_glo {fa : List He.Fa} {n : Str} (h : fa.any (isGlo · n) = true) : He.Fa.glo n ∈ fa := by
  obtain ⟨f, h1, h2⟩ := List.any_eq_true.mp h
  cases f <;> first | (cases h2; done) | skip
  have e := of_decide_eq_true h2
  rw [← e]
  exact h1
/-- what the head tells: the facts, the constants -/
structure HdF (K : PySem.W.Frag) (mg : Str → Option Value) (fa : List He.Fa) (fn : List He.DefD) (exs : List Str) : Prop where
  glo : ∀ n, fa.any (isGlo · n) = true → mg n = some (.ref (He.ga K n))
  free : ∀ n, fa.any (isFree · n) = true → mg n = none
  exc : ∀ n, fa.any (isExc · n) = true → PySem.W.excIn K (He.ga K n) He.veBase "ValueError.__new__" = true ∧ PySem.W.keepIn K (.ref (He.ga K n)) = true ∧ PySem.W.subIn K (.ref (He.ga K n)) (.type "BaseException") = some true ∧
    PySem.W.typeIn K (.ref (He.ga K n)) = some (.type "type")
  defs : ∀ d ∈ fn, ∃ fd, FunD K d.name d.qual d.params d.body d.scope (d.dvs K) (d.kws K) (He.fAd K d.at_) fd
  exsOk : (exs.all fun n => fa.any (isExc · n) && (fa.any (isGlo · n) && !(n == ("__debug__" : Str)))) = true
theorem hdF_of {fa : List He.Fa} {fn : List He.DefD} {exs : List Str} {h : Heap} (X : K.In h) (G : h.Ns mainGlobals mg) (c : He.SaysD fa fn K) (e : (exs.all fun n => fa.any (isExc · n) && (fa.any (isGlo · n) && !(n == ("__debug__" : Str)))) = true) : HdF K mg fa fn exs where
  glo := fun n h => He.glo_ok X G (c.facts (any_glo h))
  free := fun n h => He.free_ok X G (c.facts (any_free h))
  exc := fun n h => He.exc_ok (c.facts (any_exc h))
  defs := fun d h => c.defs h
  exsOk := e
theorem env_mk {fa : List He.Fa} {fn : List He.DefD} {exs : List Str} (c : HdF K mg fa fn exs) {C : Cfg} {fl : List FnV} {gl : List D} {k : Nat}
    (hf : AllSt P w K mg base (caX K exs) cf k C.fns fl) (hgc : AllG K mg C.gcs gl) (hbl : (C.bl.all fun n => fa.any (isFree · n)) = true) (hex : C.exs = exs) : Env1 P w K mg base C (mkG fl gl) (caX K exs) cf k where
  fns := fun j I hI => hf.get hI
  bl := fun n h => c.free n (List.all_eq_true.mp hbl n (by simpa using h))
  gcs := fun j n d h1 h2 => hgc.get h1 h2
  exs := fun j n hj => by
    rw [hex] at hj
    have hm : n ∈ exs := List.mem_of_getElem? hj
    have h1 := List.all_eq_true.mp c.exsOk n hm
    rw [Bool.and_eq_true, Bool.and_eq_true] at h1
    obtain ⟨h2, h3, h4⟩ := h1
    obtain ⟨e1, e2, e3, e4⟩ := c.exc n h2
    have ec : caX K exs j = He.ga K n := by unfold caX; rw [List.getD_eq_getElem?_getD, hj]; rfl
    rw [ec]
    refine ⟨He.veBase, "ValueError", "ValueError.__new__", "ValueError.__init__", PySem.F.excBase_ValueError, e1, c.glo n h3, e2, by simpa using h4, fun M h X => ⟨PySem.W.looks_subIn X e3, PySem.W.looks_typeIn X e4⟩⟩
theorem fnOk_mk {fa : List He.Fa} {fn : List He.DefD} {exs : List Str} (c : HdF K mg fa fn exs) {x : Str} {st : Stmt} {ps : List Str} {C : Cfg} {fl : List FnV} {gl : List D} {pk : List PK} {body : List Sm} {k : Nat} {fd : FuncData}
    (F : FunD K x x (defArgs st) (defBody st) (defScope st) [] [] (He.ga K x) fd)
    (Sc : FnScope C.N ps (defScope st)) (hpk : (decide (ps.length = pk.length) && (pkB C pk && (celIx pk 0).all fun i => decide (i ∈ C.pcl))) = true) (hchk : chkSs C (defScope st) body (defBody st) = true)
    (hf : AllSt P w K mg base (caX K exs) cf k C.fns fl) (hgc : AllG K mg C.gcs gl) (hbl : (C.bl.all fun n => fa.any (isFree · n)) = true) (hex : C.exs = exs) (ht : C.tri = false := by rfl) :
    FnOk P w K mg base (L2N.CX P w) (k + 1) (He.ga K x) fd ps (spF K (caX K exs) cf pk C.ret (denF C (mkG fl gl) pk body)) := by
  rw [Bool.and_eq_true, Bool.and_eq_true, decide_eq_true_eq] at hpk
  obtain ⟨h1, h2, h3⟩ := hpk
  exact def_ok F Sc h1 h2 (env_mk c hf hgc hbl hex) (fun i hi => of_decide_eq_true (List.all_eq_true.mp h3 i hi)) hchk ht
theorem st_mk {fa : List He.Fa} {fn : List He.DefD} {exs : List Str} (c : HdF K mg fa fn exs) {x : Str} {st : Stmt} {ps : List Str} {C : Cfg} {fl : List FnV} {gl : List D} {pk : List PK} {body : List Sm} {k : Nat}
    (i : Nat) (hd : fn[i]? = some ⟨(x, none), x, x, defArgs st, defBody st, defScope st, [], []⟩) (hg : fa[i]? = some (.glo x))
    (hb : ∀ (kV doc pm : Value) (an : Option Addr) (cdv ct : Value) (us : List Value), us.length = ps.length → bindArgs (PySem.W.fnOf x x (defArgs st) (defBody st) (defScope st) .none kV doc pm an cdv ct) ⟨us, []⟩ = pure (ps.zip us))
    (Sc : FnScope C.N ps (defScope st)) (hpk : (decide (ps.length = pk.length) && (pkB C pk && (celIx pk 0).all fun i => decide (i ∈ C.pcl))) = true) (hchk : chkSs C (defScope st) body (defBody st) = true)
    (hf : AllSt P w K mg base (caX K exs) cf k C.fns fl) (hgc : AllG K mg C.gcs gl) (hbl : (C.bl.all fun n => fa.any (isFree · n)) = true) (hex : C.exs = exs) (ht : C.tri = false := by rfl) :
    St P w K mg base (caX K exs) cf ⟨x, pk, C.ret⟩ (denF C (mkG fl gl) pk body) (k + 1) := by
  obtain ⟨fd, F⟩ := c.defs _ (List.mem_of_getElem? hd)
  have F' : FunD K x x (defArgs st) (defBody st) (defScope st) [] [] (He.ga K x) fd := F
  refine ⟨He.ga K x, fd, ps, k + 1, ⟨?_, rfl⟩, F'.kp, F'.bindsN hb, fnOk_mk c F' Sc hpk hchk hf hgc hbl hex ht, Nat.le_refl _⟩
  have hm := List.mem_of_getElem? hg
  exact c.glo x (List.any_eq_true.mpr ⟨_, hm, decide_eq_true rfl⟩)
/-- a def of which nothing is asked -/
theorem st_none {fa : List He.Fa} {fn : List He.DefD} {exs : List Str} (c : HdF K mg fa fn exs) {x : Str} {st : Stmt} {ps : List Str} {pk : List PK} {ret : Bool} {k : Nat}
    (i : Nat) (hd : fn[i]? = some ⟨(x, none), x, x, defArgs st, defBody st, defScope st, [], []⟩) (hg : fa[i]? = some (.glo x))
    (hb : ∀ (kV doc pm : Value) (an : Option Addr) (cdv ct : Value) (us : List Value), us.length = ps.length → bindArgs (PySem.W.fnOf x x (defArgs st) (defBody st) (defScope st) .none kV doc pm an cdv ct) ⟨us, []⟩ = pure (ps.zip us)) :
    St P w K mg base (caX K exs) cf ⟨x, pk, ret⟩ (fun _ _ => none) k := by
  obtain ⟨fd, F⟩ := c.defs _ (List.mem_of_getElem? hd)
  have F' : FunD K x x (defArgs st) (defBody st) (defScope st) [] [] (He.ga K x) fd := F
  have no : ∀ vs H Q E, spF K (caX K exs) cf pk ret (fun _ _ => none) vs H Q E → False := fun vs H Q E ⟨_, _, _, _, _, _, _, _, h, _⟩ => nomatch h
  refine ⟨He.ga K x, fd, ps, k, ⟨?_, rfl⟩, F'.kp, F'.bindsN hb, ⟨fun vs H Q E h => (no vs H Q E h).elim, fun A outer s H args us vs Q E _ _ _ _ h => (no vs H Q E h).elim⟩, Nat.le_refl _⟩
  have hm := List.mem_of_getElem? hg
  exact c.glo x (List.any_eq_true.mpr ⟨_, hm, decide_eq_true rfl⟩)
theorem gc_int {h : Heap} (X : K.In h) (G : h.Ns mainGlobals mg) {x : Str} {i : Int} (c : (He.Fa.int x i).ok K = true) : GcT K mg x (.int i) := by
  obtain ⟨t, e⟩ := He.int_ok X G c
  exact ⟨_, .int i, e, ⟨t, rfl⟩, .int i⟩
theorem gc_str {h : Heap} (X : K.In h) (G : h.Ns mainGlobals mg) {x z : Str} (c : (He.Fa.str x z).ok K = true) : GcT K mg x (.str z) := by
  obtain ⟨t, e⟩ := He.str_ok X G c
  exact ⟨_, .str z, e, ⟨t, rfl⟩, .str z⟩
/-- a tuple of the top: ('', 0) -/
theorem gc_si {h : Heap} (X : K.In h) (G : h.Ns mainGlobals mg) {x s : Str} {i : Int} (c : (He.Fa.glo x).ok K = true) (hT : He.tupB K x [.str s, .int i] = true) : GcT K mg x (.tup [.str s, .int i]) :=
  ⟨_, .ref (He.ga K x), He.glo_ok X G c, rfl, .tup (He.tupB_ok hT _) (.cons (.str s) (.cons (.int i) .nil))⟩
theorem repL_ints {S : AS} {H : Hp} : ∀ ns : List Int, RepL K S H (ns.map D.int) (ns.map V.int)
  | [] => .nil
  | n :: r => .cons (.int n) (repL_ints r)
/-- the law's end -/
theorem sp_law {f : FnV} {n : Nat} (hF : ∀ ns : List Int, ns.length ≤ n → f [.lst (ns.map D.int)] [] = some (.ok (.bl true), [])) (H : Hp) (a : Addr) (ns : List Int) (hl : ns.length ≤ n) (hS : SqL K H a (ns.map V.int)) :
    spF K ca cf [.val] true f [.ref a] H (fun v _ => v = .bl true) fun _ _ _ => False := by
  refine ⟨fun _ => False, [.lst (ns.map D.int)], [], .ok (.bl true), [], fun _ z => z.elim, List.nodup_nil, ⟨.ref a, [], _, [], rfl, rfl, .lst ?_ (repL_ints ns), rfl, rfl, rfl⟩, hF ns hl, fun v H' _ _ r => ?_⟩
  · rcases hS with h | h
    · exact .inl ⟨fun z => z, h⟩
    · exact .inr h
  · have r2 : Fr K (fun _ => False) H H' (.bl true) v ∧ isDic (.bl true) = false := r
    cases r2.1
    rfl
end
/-- the law's end, what it may let out told by the world -/
theorem walkW {l : PySem.W.OpenLaw} {n k : Nat} {q : Program} {lo : List Str} {X1 : (Str → Option Value) → Heap → Prop} {Y1 : World → Heap → Prop} {d : DefRec} {CX : World → CXT} {x : Str}
    (e1 : l.most = some n) (e2 : n ≤ sizeLine) (e3 : d.params.defaults = []) (e4 : Room k callerA)
    (F : ∀ (w : World) (mg : Str → Option Value) (fa : Addr) (h : Heap), Y1 w h → h.Ns mainGlobals mg → mg d.name = some (.ref fa) →
      ∃ (K : PySem.W.Frag) (fd : FuncData) (sp : Sp), K.In h ∧ (∀ (s : Shared) (u : Value), BindsTo s fd ⟨[u], []⟩ [(x, u)]) ∧
        (∀ (H : Hp) (a : Addr) (ns : List Int), ns.length ≤ n → SqL K H a (ns.map V.int) → sp [.ref a] H (fun v _ => v = .bl true) fun _ _ _ => False) ∧
        ∀ base : Heap, FnOk l.prog w K mg base (CX w) k fa fd [x] sp)
    (no : ∀ (w : World) (H : Hp) (s : Shared) (e : Value) (s' : Shared), CX w [] H s (fun _ _ _ => False) e s' → False) :
    PySem.W.WalkO q lo X1 Y1 l.row.toRowW d [] (fun f vs => PySem.call f vs) := by
  refine Att.attach_call e1 e3 fun w _ s2 mg _ fa _ _ _ _ _ _ ns G Y _ _ _ g1 g2 g3 g4 g5 => ?_
  obtain ⟨K, fd, sp, kx, b, p, f⟩ := F w mg fa _ Y G.T.g g1
  exact law_call kx G.T.g G.T.b G.T.builtins G.T.nolimit g5 g2 g3 (Nat.le_trans g4 e2) e4 (fun base _ _ => f base) b (fun H _ hS => p H _ ns g4 hS) fun H e s' => no w H s2 e s'
theorem cx_no {P : Program} {w : World} (H : Hp) (s : Shared) (e : Value) (s' : Shared) (h : L2N.CX P w [] H s (fun _ _ _ => False) e s') : False := by
  obtain ⟨_, _, _, _, _, _, _, _, _, _, _, _, z⟩ := h
  exact z
end Rf

set_option maxRecDepth 100000
set_option maxHeartbeats 2000000
/-! Hx1: a zip's end while an exception is handled. -/
namespace Rf
open PySem PySem.Spec PyProof.Rows L2
section
variable {prog : Program} {w : World} {A : Around} {E : Value → Shared → Prop} {s : Shared}
theorem hotAt_keep {x1 : Addr} {h h' : Heap} (hot : HotX.HotAt A x1 h) (k : ∀ o, h.get? x1 = some o → h'.get? x1 = some o) : HotX.HotAt A x1 h' := by
  obtain ⟨a, o, vs, b, c, d⟩ := hot
  exact ⟨a, o, vs, k o b, c, d⟩
theorem lend_hot {it l x1 : Addr} {i : Nat} {items : Array Value} {Q : Value → Shared → Prop} (hot : HotX.HotAt A x1 s.heap) (hxi : x1 ≠ it)
    (hit : s.heap.IsListIter it l i) (hl : s.heap.IsList l items) (hx : items[i]? = none)
    (hE : ∀ h' e, Heap.ExtBut it s.heap h' → (∃ o, h'.get? e = some o ∧ o.cls = .type "StopIteration") → E (.ref e) { s with heap := h' }) :
    wpAny (model prog w) A (Builtin.SmallTypes.nextOf (.ref it)) Q E s := by
  obtain ⟨o, ho, hc, hd⟩ := id hit
  obtain ⟨ol, hol, _, nl, hdl⟩ := hl
  have hT := hit.typeIs
  unfold Builtin.SmallTypes.nextOf
  refine wpAny_bind (wpAny_callSpecial?_slot (name := Str.ofString "__next__") hT slot_listiter_next (wpAny_call_entry slot_listiter_next hT entry_listiter_next ?_ (args_listiter_next _)))
  show wpAny _ _ (field (.ref it) 0 >>= _) _ _ s; refine wpAny_bind (wpAny_field ho hd (x := .ref l) rfl ?_)
  show wpAny _ _ (if (Value.ref l == Value.none) = true then _ else _) _ _ s; rw [if_neg (show ¬ ((Value.ref l == Value.none) = true) from Bool.false_ne_true)]
  show wpAny _ _ (field (.ref it) 1 >>= _) _ _ s; refine wpAny_bind (wpAny_field ho hd (x := .int i 0) rfl ?_)
  show wpAny _ _ (seqItems? (.ref l) >>= _) _ _ s; refine wpAny_bind (wpAny_seqItems hol hdl ?_)
  simp only [Int.toNat_natCast, hx]
  refine wpAny_bind (wpAny_rule (wpAny_bind (wpAny_setField ho hd (by simp) ?_)))
  show wpAny _ _ (newExc (.type "StopIteration") [] >>= _) _ _ _; refine wpAny_bind ?_
  simp only [newExc, newTuple]
  refine wpAny_bind (wpAny_newObj_type ?_ (by size_fits)); refine wpAny_bind (m := firstArgMember _ _) (wpAny_of_eq (a := Value.none) (by first | rfl | (simp only [firstArgMember]; rfl)) ?_)
  refine wpAny_newObj_type ?_ (by size_fits)
  obtain ⟨hh, o1, vs1, g1, d1, c1⟩ := hot
  have g2 := (Heap.get?_update_other s.heap (Obj.mapFields (·.setIfInBounds 0 Value.none)) (Ne.symm hxi)).trans g1
  have g3 := Heap.get?_push_of_some { cls := .type "tuple", data := .seq #[] } g2
  have g4 := Heap.get?_push_of_some { cls := .type "StopIteration", data := .fields (#[.ref (s.heap.update it (Obj.mapFields (·.setIfInBounds 0 Value.none))).objs.size, .none, .none, .none, .bool false, .none] ++ ownMembersOf (.type "StopIteration") []) } g3
  refine HotX.raiseNew_hot (A := A.in1) ⟨hh, o1, vs1, g4, d1, c1⟩ (Nat.ne_of_lt (Heap.lt_size g3)) (Heap.get?_push_size _ rfl) rfl (by first | (simp; done) | (simp; omega) | (simp only [Array.size_append]; simp; omega)) ?_
  refine hE _ _ (fun b o hb e => ?_) ⟨_, Heap.get?_update_self _ (Heap.get?_push_size _ rfl) rfl, rfl⟩
  have e2 := Heap.get?_push_of_some { cls := .type "tuple", data := .seq #[] } ((Heap.get?_update_other s.heap (Obj.mapFields (·.setIfInBounds 0 Value.none)) (Ne.symm hb)).trans e)
  exact (Heap.get?_update_other _ _ (Nat.ne_of_gt (Heap.lt_size e2))).trans (Heap.get?_push_of_some _ e2)
theorem zend_hot {z TI TO i1 i2 l1 l2 x1 : Addr} {k1 k2 : Nat} {xs ys : Array Value} {a b : Value} {Q : PySem.Fin → Shared → Prop} (hot : HotX.HotAt A x1 s.heap) (nx : x1 ≠ z ∧ x1 ≠ TO ∧ x1 ≠ i1 ∧ x1 ≠ i2) (D : ZipApart z TI TO i1 i2 l1 l2)
    (hz : IsZip s.heap z TI TO .none) (hTI : IsPair s.heap TI (.ref i1) (.ref i2)) (hTO : IsPair s.heap TO a b) (h1 : s.heap.IsListIter i1 l1 k1) (h2 : s.heap.IsListIter i2 l2 k2) (hl1 : s.heap.IsList l1 xs) (hl2 : s.heap.IsList l2 ys) (hend : xs[k1]? = none ∨ ys[k2]? = none)
    (hE : ∀ h' e, (∀ c o, c ≠ z → c ≠ TO → c ≠ i1 → c ≠ i2 → s.heap.get? c = some o → h'.get? c = some o) → (∃ o, h'.get? e = some o ∧ o.cls = .type "StopIteration") → E (.ref e) { s with heap := h' }) :
    wpAny (model prog w) A (Builtin.«zip.__next__» ⟨[.ref z], []⟩) Q E s := by
  obtain ⟨n1, n2, n3, n4⟩ := nx
  show wpAny _ _ (field (.ref z) 2 >>= _) _ _ _; refine wpAny_bind (wpAny_field hz rfl (x := .bool false) rfl ?_)
  show wpAny _ _ (field (.ref z) 3 >>= _) _ _ _; refine wpAny_bind (wpAny_field hz rfl (x := .ref TI) rfl ?_)
  refine wpAny_bind (wpAny_seqItems hTI rfl ?_)
  show wpAny _ _ (Builtin.SmallTypes.ownedTupleIsFree (.ref z) >>= _) _ _ _; refine wpAny_bind ?_
  unfold Builtin.SmallTypes.ownedTupleIsFree
  refine wpAny_bind (wpAny_field hz rfl (x := .none) rfl (wpAny_pure ?_)); simp only [if_true]
  refine wpAny_bind (wpAny_rule ?_); refine wpAny_bind (wpAny_field hz rfl (x := .ref TO) rfl ?_)
  refine wpAny_bind (wpAny_setField_rec hz (by simp) fun h₁ hz₁ hs₁ => ?_)
  replace hz₁ : IsZip h₁ z TI TO .ellipsis := hz₁
  have hot1 : HotX.HotAt A x1 h₁ := hotAt_keep hot fun o e => hs₁.extBut _ _ n1 e
  refine wpAny_bind ?_; simp only [List.zipIdx_cons, List.zipIdx_nil, List.forIn_cons, List.forIn_nil]
  refine wpAny_bind (wpAny_bind (wpAny_onRaise ?_)); show wpAny _ _ (Builtin.SmallTypes.nextOf (.ref i1) >>= _) _ _ _
  cases hx : xs[k1]? with
  | none =>
    refine wpAny_bind (lend_hot hot1 n3 (h1.extBut hs₁.extBut D.i1z) (hl1.extBut hs₁.extBut D.l1z) hx fun h₂ e hs₂ he => ?_)
    obtain ⟨oe, hoe, hce⟩ := he
    have hz₂ : IsZip h₂ z TI TO .ellipsis := hs₂ _ _ D.i1z.symm hz₁
    have hez : e ≠ z := fun x => by rw [x, hz₂] at hoe; cases hoe; exact (by decide : Value.type "zip" ≠ Value.type "StopIteration") hce
    exact wpAny_setField_rec hz₂ (by simp) fun h₃ _ hs₃ => hE h₃ e (fun c o c1 _ c3 _ x => hs₃.extBut _ _ c1 (hs₂ _ _ c3 (hs₁.extBut _ _ c1 x))) ⟨oe, hs₃.extBut _ _ hez hoe, hce⟩
  | some x =>
    have hy : ys[k2]? = none := hend.resolve_left (by rw [hx]; exact fun z => nomatch z)
    refine wpAny_bind (wpAny_nextOf_list_item (h1.extBut hs₁.extBut D.i1z) (hl1.extBut hs₁.extBut D.l1z) hx fun h₂ h1₂ hs₂ => wpAny_pure ?_)
    have hTO₂ : IsPair h₂ TO a b := hs₂.extBut _ _ D.TOi1 (hs₁.extBut _ _ D.TOz hTO)
    refine wpAny_bind (wpAny_seqItems hTO₂ rfl ?_); refine wpAny_bind (wpAny_updateSeq_pair hTO₂ fun h₃ hTO₃ hs₃ => ?_)
    refine wpAny_bind (wpAny_letGo (wpAny_pure ?_)); refine wpAny_bind (wpAny_bind (wpAny_onRaise ?_)); show wpAny _ _ (Builtin.SmallTypes.nextOf (.ref i2) >>= _) _ _ _
    have hot3 : HotX.HotAt A x1 h₃ := hotAt_keep hot1 fun o e => hs₃.extBut _ _ n2 (hs₂.extBut _ _ n3 e)
    refine wpAny_bind (lend_hot hot3 n4 (((h2.extBut hs₁.extBut D.i2z).extBut hs₂.extBut D.i12.symm).extBut hs₃.extBut D.TOi2.symm) (((hl2.extBut hs₁.extBut D.l2z).extBut hs₂.extBut D.l2i1).extBut hs₃.extBut D.l2TO) hy fun h₄ e hs₄ he => ?_)
    obtain ⟨oe, hoe, hce⟩ := he
    have hz₄ : IsZip h₄ z TI TO .ellipsis := hs₄ _ _ D.i2z.symm (hs₃.extBut _ _ D.TOz.symm (hs₂.extBut _ _ D.i1z.symm hz₁))
    have hez : e ≠ z := fun x => by rw [x, hz₄] at hoe; cases hoe; exact (by decide : Value.type "zip" ≠ Value.type "StopIteration") hce
    exact wpAny_setField_rec hz₄ (by simp) fun h₅ _ hs₅ => hE h₅ e (fun c o c1 c2 c3 c4 x => hs₅.extBut _ _ c1 (hs₄ _ _ c4 (hs₃.extBut _ _ c2 (hs₂.extBut _ _ c3 (hs₁.extBut _ _ c1 x))))) ⟨oe, hs₅.extBut _ _ hez hoe, hce⟩
theorem nzend_hot {z TI TO i1 i2 l1 l2 x1 : Addr} {k1 k2 : Nat} {xs ys : Array Value} {a b : Value} {Q : Option Value → Shared → Prop} (hot : HotX.HotAt A x1 s.heap) (nx : x1 ≠ z ∧ x1 ≠ TO ∧ x1 ≠ i1 ∧ x1 ≠ i2) (D : ZipApart z TI TO i1 i2 l1 l2)
    (hz : IsZip s.heap z TI TO .none) (hTI : IsPair s.heap TI (.ref i1) (.ref i2)) (hTO : IsPair s.heap TO a b) (h1 : s.heap.IsListIter i1 l1 k1) (h2 : s.heap.IsListIter i2 l2 k2) (hl1 : s.heap.IsList l1 xs) (hl2 : s.heap.IsList l2 ys) (hend : xs[k1]? = none ∨ ys[k2]? = none)
    (hQ : ∀ h', (∀ c o, c ≠ z → c ≠ TO → c ≠ i1 → c ≠ i2 → s.heap.get? c = some o → h'.get? c = some o) → Q none { s with heap := h' }) : wpAny (model prog w) A (pyNext (.ref z)) Q E s := by
  have hT : s.TypeIs (.ref z) "zip" := ⟨_, hz, rfl⟩
  unfold pyNext
  refine wpAny_bind (wpAny_attempt (wpAny_callSpecial?_slot (name := Str.ofString "__next__") hT F.slot_zip_next (wpAny_call_entry F.slot_zip_next hT F.entry_zip_next (zend_hot (A := A.in1) hot nx D hz hTI hTO h1 h2 hl1 hl2 hend fun h' e hk he => ?_) (F.args_zip_next_1 _))))
  obtain ⟨o, ho, hc⟩ := he
  exact wpAny_bind (wpAny_isInstance (T := "StopIteration") (b := true) ⟨o, ho, hc⟩ isSubtype_stop (wpAny_pure (hQ _ hk)))
end
end Rf

set_option maxRecDepth 100000
set_option maxHeartbeats 2000000
/-! Hx2: a zip of lists walked while an exception is handled. -/
namespace Rf
open PySem PySem.Spec PyProof.Rows L2
/-- the handled exception is pinned -/
def HotP (X : Cx) (pins : List (Addr × Obj)) : Prop := ∃ p : Addr × Obj, L2H.Hot1 X.A p ∧ p ∈ X.pn ++ pins
structure TurnP (P : Program) (w : World) (K : PySem.W.Frag) (tg : Expr) (J : L2.It) (fp : List Addr) (it : Addr) (tn : Nat → Heap → Prop) : Prop where
  mem : it ∈ fp
  obj : ∀ i h, tn i h → ∀ b ∈ fp, ∃ o, h.get? b = some o ∧ ∀ v, o.data ≠ .cell v
  keep : ∀ i h h', tn i h → (∀ b ∈ fp, ∀ o, h.get? b = some o → h'.get? b = some o) → tn i h'
  item : ∀ (X : Cx), X.prog = P → X.w = w → X.K = K → ∀ (i : Nat) (pins : List (Addr × Obj)) (s : Shared) (σ : L2.St) (H : Hp) (E : Value → Shared → Prop), Inv X pins σ H s → (∀ b ∈ fp, FpOk X pins H b) → tn i s.heap → J.go i H →
    wpAny (model P w) X.A (pyNext (.ref it)) (fun r s1 => ∃ u, r = some u ∧
      wpAny (model P w) X.A (letOwnedTupleGo tg (.ref it) u) (fun _ s2 => ∃ x H', Inv X pins σ H' s2 ∧ RelV x u ∧ J.yld i H x H' ∧ tn (i + 1) s2.heap ∧ ∀ b ∈ fp, H' b = none) E s1) E s
  done : ∀ (X : Cx), X.prog = P → X.w = w → X.K = K → ∀ (i : Nat) (pins : List (Addr × Obj)) (s : Shared) (σ : L2.St) (H : Hp) (E : Value → Shared → Prop), HotP X pins → Inv X pins σ H s → (∀ b ∈ fp, FpOk X pins H b) → tn i s.heap → J.stop i H →
    wpAny (model P w) X.A (pyNext (.ref it)) (fun r s1 => r = none ∧ Inv X pins σ H s1) E s
  self : ∀ (A : Around) (i : Nat) (s : Shared) (Q : Value → Shared → Prop) (E : Value → Shared → Prop), tn i s.heap → Q (.ref it) s → wpAny (model P w) A (pyIter (.ref it)) Q E s
theorem turnP_zip {P : Program} {w : World} {K : PySem.W.Frag} {elts : List Expr} {kk : Nat} {tpos : Pos} {a b z TI TO i1 i2 : Addr} (D : ZipApart z TI TO i1 i2 a b) :
    TurnP P w K (.Tuple elts kk tpos) (Itz K a b) [z, TI, TO, i1, i2] z (fun i h => IsZip h z TI TO .none ∧ IsPair h TI (.ref i1) (.ref i2) ∧ (∃ x y, IsPair h TO x y) ∧ h.IsListIter i1 a i ∧ h.IsListIter i2 b i) where
  mem := (turn_zip (P := P) (w := w) (K := K) (elts := elts) (kk := kk) (tpos := tpos) D).mem
  obj := (turn_zip (P := P) (w := w) (K := K) (elts := elts) (kk := kk) (tpos := tpos) D).obj
  keep := (turn_zip (P := P) (w := w) (K := K) (elts := elts) (kk := kk) (tpos := tpos) D).keep
  self := (turn_zip (P := P) (w := w) (K := K) (elts := elts) (kk := kk) (tpos := tpos) D).self
  item := by
    intro X hP hw hK i pins s σ H E I hf st hg
    subst hP hw hK
    obtain ⟨hz, hTI, ⟨x0, y0, hTO⟩, h1, h2⟩ := st
    obtain ⟨xs, ys, x, y, hqx, hqy, hx, hy⟩ := hg
    obtain ⟨its, rv, p, _⟩ := I.list hqx
    obtain ⟨its2, rv2, p2, _⟩ := I.list hqy
    obtain ⟨u, hu, ru⟩ := rv.get hx
    obtain ⟨u2, hu2, ru2⟩ := rv2.get hy
    have hzl : z < s.heap.objs.size := Heap.lt_size hz
    have fpl : ∀ c ∈ [z, TI, TO, i1, i2], c < s.heap.objs.size := fun c hc => by
      have e' : c = z ∨ c = TI ∨ c = TO ∨ c = i1 ∨ c = i2 := by simpa using hc
      rcases e' with q | q | q | q | q <;> rw [q]
      · exact hzl
      · exact Heap.lt_size hTI
      · exact Heap.lt_size hTO
      · obtain ⟨_, e1, _⟩ := h1; exact Heap.lt_size e1
      · obtain ⟨_, e2, _⟩ := h2; exact Heap.lt_size e2
    refine wpAny_pyNext_zip_item D hz hTI hTO h1 h2 p.isList p2.isList (x := u) (y := u2) (by simpa using hu) (by simpa using hu2) fun h' z' TO' h1' h2' hT hsz hk => ⟨_, rfl, ?_⟩
    refine wpAny_letOwnedTupleGo_zip (s := { s with heap := h' }) z' fun h'' z'' sb => ?_
    have hT2 : h''.get? s.heap.objs.size = some { cls := .type "tuple", data := .seq #[u, u2] } := (sb.2 _ (Nat.ne_of_gt hzl)).trans hT
    have I1 := I.turnedNew (t' := s.toks) (ch := [z, TI, TO, i1, i2]) (h' := h'') (ob := .tup [x, y]) (fun c o hb q => (sb.2 c (fun q' => hb (by simp [q']))).trans (hk c o (fun q' => hb (by simp [q'])) (fun q' => hb (by simp [q'])) (fun q' => hb (by simp [q'])) (fun q' => hb (by simp [q'])) q)) hf (Nat.le_refl _)
      ⟨by show 2 ≤ sizeLine; decide, [u, u2], .cons ru (.cons ru2 .nil), ⟨_, hT2, rfl, _, rfl⟩⟩
    refine ⟨.ref s.heap.objs.size, _, I1, rfl, ⟨_, x, y, rfl, I.hok.fresh (Nat.le_refl _), rfl, fun l hl => by rw [I.list_inj hl hqx]; exact hx, fun l hl => by rw [I.list_inj hl hqy]; exact hy⟩, ⟨z'', (sb.2 _ D.TIz).trans (hk _ _ D.TIz D.TITO D.TIi1 D.TIi2 hTI), ⟨u, u2, (sb.2 _ D.TOz).trans TO'⟩, h1'.at fun o q => (sb.2 _ D.i1z).trans q, h2'.at fun o q => (sb.2 _ D.i2z).trans q⟩, fun c hcm => ?_⟩
    rw [upd_ne (Nat.ne_of_lt (fpl c hcm))]
    exact (hf c hcm).1
  done := by
    intro X hP hw hK i pins s σ H E hot I hf st hg
    subst hP hw hK
    obtain ⟨hz, hTI, ⟨x0, y0, hTO⟩, h1, h2⟩ := st
    obtain ⟨xs, ys, hqx, hqy, hend⟩ := hg
    obtain ⟨its, rv, p, _⟩ := I.list hqx
    obtain ⟨its2, rv2, p2, _⟩ := I.list hqy
    have l1 := rv.length
    have l2 := rv2.length
    have he : its.toArray[i]? = none ∨ its2.toArray[i]? = none := by
      rcases hend with q | q
      · exact .inl (by simp; omega)
      · exact .inr (by simp; omega)
    obtain ⟨q, ⟨hh, vs, e1, c1⟩, hq⟩ := hot
    have ne : ∀ c ∈ [z, TI, TO, i1, i2], q.1 ≠ c := fun c hc => (hf c hc).2.2.2.2.2 q hq
    exact nzend_hot ⟨hh, q.2, vs, (I.pin q hq).1, e1, c1⟩ ⟨ne z (by simp), ne TO (by simp), ne i1 (by simp), ne i2 (by simp)⟩ D hz hTI hTO h1 h2 p.isList p2.isList he fun h' hk => ⟨rfl, I.turnedL (t' := s.toks) (ch := [z, TI, TO, i1, i2]) (fun c o hb e =>
      hk c o (fun q' => hb (by simp [q'])) (fun q' => hb (by simp [q'])) (fun q' => hb (by simp [q'])) (fun q' => hb (by simp [q'])) e) hf⟩
end Rf

set_option maxRecDepth 100000
set_option maxHeartbeats 2000000
/-! Hx4: a tuple unpacked while an exception is handled. -/
namespace Rf
open PySem PySem.Spec PyProof.Rows L2
section
variable {prog : Program} {w : World} {A : Around} {E : Value → Shared → Prop} {s : Shared}
theorem tend_hot {it t x1 : Addr} {i : Nat} {items : Array Value} {Q : Option Value → Shared → Prop} (hot : HotX.HotAt A x1 s.heap) (hxi : x1 ≠ it)
    (hit : IsTupIter s.heap it t i) (ht : IsTup s.heap t items) (hx : items[i]? = none) (hQ : ∀ h', Heap.ExtBut it s.heap h' → Q none { s with heap := h' }) : wpAny (model prog w) A (pyNext (.ref it)) Q E s := by
  obtain ⟨o, ho, hc, hd⟩ := id hit
  obtain ⟨ol, hol, _, nl, hdl⟩ := ht
  have hT := hit.typeIs
  unfold pyNext
  refine wpAny_bind (wpAny_attempt (wpAny_callSpecial?_slot (name := Str.ofString "__next__") hT slot_tupleiter_next (wpAny_call_entry slot_tupleiter_next hT entry_tupleiter_next ?_ (args_tupleiter_next _))))
  show wpAny _ _ (field (.ref it) 0 >>= _) _ _ s; refine wpAny_bind (wpAny_field ho hd (x := .ref t) rfl ?_)
  show wpAny _ _ (if (Value.ref t == Value.none) = true then _ else _) _ _ s; rw [if_neg (show ¬ ((Value.ref t == Value.none) = true) from Bool.false_ne_true)]
  show wpAny _ _ (field (.ref it) 1 >>= _) _ _ s; refine wpAny_bind (wpAny_field ho hd (x := .int i 0) rfl ?_)
  show wpAny _ _ (seqItems? (.ref t) >>= _) _ _ s; refine wpAny_bind (wpAny_seqItems hol hdl ?_)
  simp only [Int.toNat_natCast, hx]
  refine wpAny_bind (wpAny_rule (wpAny_bind (wpAny_setField ho hd (by simp) ?_)))
  show wpAny _ _ (newExc (.type "StopIteration") [] >>= _) _ _ _; refine wpAny_bind ?_
  simp only [newExc, newTuple]
  refine wpAny_bind (wpAny_newObj_type ?_ (by size_fits)); refine wpAny_bind (m := firstArgMember _ _) (wpAny_of_eq (a := Value.none) (by first | rfl | (simp only [firstArgMember]; rfl)) ?_)
  refine wpAny_newObj_type ?_ (by size_fits)
  obtain ⟨hh, o1, vs1, g1, d1, c1⟩ := hot
  have g2 := (Heap.get?_update_other s.heap (Obj.mapFields (·.setIfInBounds 0 Value.none)) (Ne.symm hxi)).trans g1
  have g3 := Heap.get?_push_of_some { cls := .type "tuple", data := .seq #[] } g2
  have g4 := Heap.get?_push_of_some { cls := .type "StopIteration", data := .fields (#[.ref (s.heap.update it (Obj.mapFields (·.setIfInBounds 0 Value.none))).objs.size, .none, .none, .none, .bool false, .none] ++ ownMembersOf (.type "StopIteration") []) } g3
  refine HotX.raiseNew_hot (A := A.in1) ⟨hh, o1, vs1, g4, d1, c1⟩ (Nat.ne_of_lt (Heap.lt_size g3)) (Heap.get?_push_size _ rfl) rfl (by first | (simp; done) | (simp; omega) | (simp only [Array.size_append]; simp; omega)) ?_
  refine wpAny_bind (wpAny_isInstance (T := "StopIteration") (b := true) ⟨_, Heap.get?_update_self _ (Heap.get?_push_size _ rfl) rfl, rfl⟩ isSubtype_stop (wpAny_pure (hQ _ fun b o hb e => ?_)))
  have e2 := Heap.get?_push_of_some { cls := .type "tuple", data := .seq #[] } ((Heap.get?_update_other s.heap (Obj.mapFields (·.setIfInBounds 0 Value.none)) (Ne.symm hb)).trans e)
  exact (Heap.get?_update_other _ _ (Nat.ne_of_gt (Heap.lt_size e2))).trans (Heap.get?_push_of_some _ e2)
theorem unp_hot {t x1 : Addr} {items : Array Value} {Q : List Value → Shared → Prop} (hot : HotX.HotAt A x1 s.heap) (ht : IsTup s.heap t items)
    (hQ : ∀ h', Heap.ExtBut s.heap.objs.size s.heap h' → Q items.toList { s with heap := h' }) : wpAny (model prog w) A (unpackItems (.ref t) items.size none) Q E s := by
  have hlt : t ≠ s.heap.objs.size := by obtain ⟨o, ho, _⟩ := ht; exact Nat.ne_of_lt (Heap.lt_size ho)
  have hx1 : x1 < s.heap.objs.size := by obtain ⟨_, o, _, ho, _⟩ := hot; exact Heap.lt_size ho
  unfold unpackItems
  refine wpAny_bind ?_
  unfold notIterableAtAll
  refine wpAny_bind (wpAny_specialOf ht.typeIs slot_tuple_iter.lookup (wpAny_pure ?_))
  simp only [Bool.false_eq_true, if_false]
  refine wpAny_bind (wpAny_holding (iter_tuple ht ?_))
  refine wpAny_bind (wpAny_holding (draw_tuple hlt items.size 0 _ _ ⟨_, Heap.get?_push_size _ rfl, rfl, rfl⟩ (ht.push _) (by omega) fun h₁ hit₁ hs₁ => ?_))
  have hall : List.take items.size (List.drop 0 items.toList) = items.toList := by
    rw [List.drop_zero]; exact List.take_of_length_le (by simp)
  rw [hall, if_neg (by simp)]
  have hot1 : HotX.HotAt A x1 h₁ := hotAt_keep hot fun o e => hs₁.extBut _ _ (Nat.ne_of_lt hx1) (Heap.get?_push_of_some _ e)
  refine wpAny_bind (wpAny_holding (tend_hot hot1 (Nat.ne_of_lt hx1) hit₁ ((ht.push _).extBut hs₁.extBut hlt) (by simp) fun h₂ he₂ => ?_))
  simp only [Option.isSome_none, Bool.false_eq_true, if_false]
  exact wpAny_pure (hQ h₂ fun b o hb e => he₂ b o hb (hs₁.extBut b o hb (Heap.get?_push_of_some _ e)))
end
end Rf

set_option maxRecDepth 100000
set_option maxHeartbeats 4000000
/-! Hx3: a comprehension while an exception is handled (HandS.Comp's rule lc_core, its iterator walked hot). -/
namespace Rf
open PySem PySem.Spec PyProof.Rows L2
variable {X : Cx}
/-- an iterator has come, to be walked while an exception is handled -/
def PIPE (X : Cx) (pins : List (Addr × Obj)) (σ : L2.St) (tg : Expr) (R : L2.It → Hp → Prop) (itv : Value) (s2 : Shared) : Prop :=
  ∃ (it : Addr) (fp : List Addr) (tn : Nat → Heap → Prop) (J : L2.It) (H' : Hp), itv = .ref it ∧ Inv X pins σ H' s2 ∧ TurnP X.prog X.w X.K tg J fp it tn ∧ tn 0 s2.heap ∧ (∀ b ∈ fp, FpOk X pins H' b) ∧ R J H'
structure PIP (X : Cx) (tg iter : Expr) (wi : TI) : Prop where
  run : ∀ (pins : List (Addr × Obj)) (s : Shared) (σ : L2.St) (H : Hp) (R : L2.It → Hp → Prop), Inv X pins σ H s → wi σ H R → wpAny (model X.prog X.w) X.A (eval iter X.env) (fun v s1 => wpAny (model X.prog X.w) X.A (pyIter v) (PIPE X pins σ tg R) X.xe s1) X.xe s
/-- a target, the handled exception p pinned -/
structure PGp (p : Addr × Obj) (X : Cx) (target : Expr) (t : TG) : Prop where
  run : ∀ (pins : List (Addr × Obj)) (s : Shared) (σ : L2.St) (H : Hp) (v : V) (u : Value) (Q : L2.St → Hp → Prop), p ∈ X.pn ++ pins → Inv X pins σ H s → RelV v u → t v σ H Q → wpAny (model X.prog X.w) X.A (assign target X.env u) (fun _ s' => ∃ σ' H', Inv X pins σ' H' s' ∧ Q σ' H') X.xe s
theorem hot_at {p : Addr × Obj} {pins : List (Addr × Obj)} {σ : L2.St} {H : Hp} {s : Shared} (hh : L2H.Hot1 X.A p) (hp : p ∈ X.pn ++ pins) (I : Inv X pins σ H s) : HotX.HotAt X.A p.1 s.heap := by
  obtain ⟨a, vs, e1, c1⟩ := hh
  exact ⟨a, p.2, vs, (I.pin p hp).1, e1, c1⟩
theorem pgp_tup {p : Addr × Obj} {es : List Expr} {k n : Nat} {t : TGs} {pos : Pos} (hh : L2H.Hot1 X.A p) (h : PGs X es t) (hn : (assignEach es X.env).length = n) (hst : (assignEach es X.env).findIdx? (·.1) = none) : PGp p X (.Tuple es k pos) (gTup X.K n t) :=
  ⟨fun pins s σ H v u Q hp I r hw => by
    obtain ⟨a, xs, e1, hq, hl, hw⟩ := hw
    subst e1
    cases r
    obtain ⟨its, rv, ht, hz⟩ := I.tuple hq
    rw [assign_Tuple]
    refine wpAny_bind (wpAny_standAt ?_)
    unfold unpack
    rw [hst, show (assignEach es X.env).length = its.toArray.size by rw [hn, ← hl, rv.length, List.size_toArray]]
    refine wpAny_bind (wpAny_holding (unp_hot (hot_at hh hp I) ht fun h' hx => ?_))
    have I1 : Inv X pins σ H { s with heap := h' } := I.kept (t' := s.toks) fun b o e => hx b o (Nat.ne_of_lt (Heap.lt_size e)) e
    exact h.run pins _ σ H xs _ Q I1 (by simpa using rv) hw⟩
theorem lc_hot {pins : List (Addr × Obj)} {s : Shared} {σ : L2.St} {H : Hp} {Q : VK} {elt tg iter : Expr} {ifs : List Expr} {scope : Scope} {own : List (Str × Nat)} {pos pos' : Pos} {wi : TI} {g : TG} {tt : TT} {te : TE} {use : Option (Value → Sem Unit)} {Qf : Value → Shared → Prop}
    (p : Addr × Obj) (hp : p ∈ X.pn ++ pins) (hh : L2H.Hot1 X.A p) (hN : X.N.Nodup) (I : Inv X pins σ H s) (hi : PIP X tg iter wi) (ok : BlkOk X.N X.env.scope scope own)
    (hg : ∀ (s : Shared) (H : Hp) (C : Addr) (cl : List (Str × Addr)) (fp : List Addr), PGp p (X.blk s H scope (compEnvC scope cl C X.env) fp) tg g) (ht : ∀ (s : Shared) (H : Hp) (C : Addr) (cl : List (Str × Addr)) (fp : List Addr), PTs (X.blk s H scope (compEnvC scope cl C X.env) fp) ifs tt)
    (he : ∀ (s : Shared) (H : Hp) (C : Addr) (cl : List (Str × Addr)) (fp : List Addr), PE (X.blk s H scope (compEnvC scope cl C X.env) fp) elt te) (hs : ∀ x, foldedSetIterable iter X.env x = pure x)
    (h : tLc wi g tt te (own.map (·.2)) σ H Q)
    (hRR : ∀ D C s' m H', Inv X pins σ H' s' → Q (.ref D) H' → s'.heap.Ns C m → FpOk X pins H' C → compPost (model X.prog X.w) X.A X.xe use Qf (.ref D) C (.ok .next) s') :
    wpAny (model X.prog X.w) X.A (comprehension (.ListComp elt [⟨tg, iter, ifs, 0⟩] scope pos) scope X.env pos' (newList []) false (eval iter X.env) use) Qf X.xe s := by
  have hfree : ∀ y ∈ scope.names, y.2 = .free → ∃ c, X.env.cells.lookup y.1 = some c := fun y hy e => by
    rcases ok.free y hy e with k | k
    · exact I.ok.has _ (.inl k)
    · exact I.ok.has _ (.inr k)
  refine wpAny_comprehension_free (use := use) rfl hs (closure_ok hfree) ok.kind (fun y hy e => by rw [ok.uniq y hy, e])
    (thn (hi.run pins s σ H _ I h) fun xv s1 hx => thn hx fun itv s2 h2 => ?_)
  obtain ⟨it, fp, tn, J, H2, e, I2, T, st2, f2, q⟩ := h2
  have hot : HotP X pins := ⟨p, hh, hp⟩
  subst e
  refine wpAny_newObj_type (newEnv_comp ?_) (by show 0 ≤ sizeLine; decide)
  generalize hD : s2.heap.objs.size = D
  have hDn : H2 D = none := I2.hok.fresh (Nat.le_of_eq hD)
  obtain ⟨W, ⟨m0, w0⟩, turn⟩ := q D hDn
  -- the new list
  generalize hs3 : ({ s2 with heap := s2.heap.push { cls := .type "list", data := .seq ([] : List Value).toArray } } : Shared) = s3
  have I3 : Inv X pins σ (upd H2 D (.lst [])) s3 := by
    rw [← hs3]
    refine I2.laid (t' := s2.toks) (fun b o e => Heap.get?_push_of_some _ e) (Nat.le_of_eq hD) ⟨Nat.zero_le _, [], 0, .nil, ?_⟩
    rw [← hD]
    exact Heap.get?_push_size _ rfl
  have h3 : s3.heap = s2.heap.push { cls := .type "list", data := .seq ([] : List Value).toArray } := by rw [← hs3]
  have sz : ∀ b ∈ fp, b < s2.heap.objs.size := fun b hb => by
    obtain ⟨o, e, _⟩ := T.obj _ _ st2 b hb
    exact Heap.lt_size e
  have f3 : ∀ b ∈ fp, FpOk X pins (upd H2 D (.lst [])) b ∧ b < s3.heap.objs.size := fun b hb => by
    have hlt := sz b hb
    refine ⟨⟨?_, (f2 b hb).2⟩, by rw [h3, Heap.size_push]; exact Nat.lt_succ_of_lt hlt⟩
    rw [upd_ne (by rw [← hD]; exact Nat.ne_of_lt hlt)]
    exact (f2 b hb).1
  have st3 : tn 0 s3.heap := T.keep _ _ _ st2 fun b _ o e => by rw [h3]; exact Heap.get?_push_of_some _ e
  have I4 := block_start I3 ok hN f3
  have nst : p.1 ∉ frs X.stack := by
    obtain ⟨_, _, q1, q2, _⟩ := I3.pin p hp
    rcases I3.ok.stk with e | ⟨e, ef⟩
    · rw [e]; exact q2
    · rw [e]
      intro hm
      obtain ⟨en, he, hq⟩ := List.mem_filterMap.mp hm
      rcases List.mem_cons.mp he with rfl | he
      · rw [ef] at hq; exact q1 (Option.some.inj hq).symm
      · exact q2 (List.mem_filterMap.mpr ⟨en, he, hq⟩)
  have pg := hg s3 (upd H2 D (.lst [])) s3.heap.objs.size (cellsFrom (s3.heap.objs.size + 1) scope.names (cloFrom X.env.cells scope.names [])) fp
  have pt := ht s3 (upd H2 D (.lst [])) s3.heap.objs.size (cellsFrom (s3.heap.objs.size + 1) scope.names (cloFrom X.env.cells scope.names [])) fp
  have pe := he s3 (upd H2 D (.lst [])) s3.heap.objs.size (cellsFrom (s3.heap.objs.size + 1) scope.names (cloFrom X.env.cells scope.names [])) fp
  show codeAny _ _ (.compStart (.ListComp elt [⟨tg, iter, ifs, 0⟩] scope pos) 0 (.ref it) (.ref D) (compEnvC scope (cellsFrom (s3.heap.objs.size + 1) scope.names (cloFrom X.env.cells scope.names [])) s3.heap.objs.size X.env)) (compPost (model X.prog X.w) X.A X.xe use Qf (.ref D) s3.heap.objs.size) { s3 with heap := pushCells (s3.heap.push { cls := .type "dict", data := .dict #[] }) scope.names }
  have nfp : ∀ b ∈ fp, (upd H2 D (.lst [])) b = none := fun b hb => (f3 b hb).1.1
  generalize hce : compEnvC scope (cellsFrom (s3.heap.objs.size + 1) scope.names (cloFrom X.env.cells scope.names [])) s3.heap.objs.size X.env = ce at I4 pg pt pe ⊢
  have cL : ce.locals = s3.heap.objs.size := by subst hce; rfl
  generalize hH3 : upd H2 D (.lst []) = H3 at I3 I4 pg pt pe w0 nfp f3
  generalize hs4 : ({ s3 with heap := pushCells (s3.heap.push { cls := .type "dict", data := .dict #[] }) scope.names } : Shared) = s4 at I4 ⊢
  have I4 : Inv (X.blk s3 H3 scope ce fp) [p] (wipe σ (own.map (·.2))) H3 s4 := I4.pins_of fun q hq => by
    obtain rfl := List.mem_singleton.mp hq
    obtain ⟨q0, q3, _, _, q4⟩ := I3.pin q hp
    refine ⟨?_, q3, ?_, nst, q4⟩
    · rw [← hs4]; exact pushCells_keeps _ _ _ _ (Heap.get?_push_of_some _ q0)
    · show q.1 ≠ ce.locals
      rw [cL]
      exact Nat.ne_of_lt (Heap.lt_size q0)
  have st4 : tn 0 s4.heap := T.keep _ _ _ st3 fun b _ o e => by rw [← hs4]; exact pushCells_keeps _ _ _ _ (Heap.get?_push_of_some _ e)
  have stat : ∀ {σ' : L2.St} {H' : Hp} {s' : Shared}, Inv (X.blk s3 H3 scope ce fp) [p] σ' H' s' → (∀ b ∈ fp, H' b = none) → ∀ b ∈ fp, FpOk (X.blk s3 H3 scope ce fp) [p] H' b := fun {σ' H' s'} I' hn b hb =>
    ⟨hn b hb, (I'.ok.exf b hb).1, I'.ok.exfs b hb, .inl hb, fun x c e => (I'.ok.exf b hb).2 x c e, fun q hq => by
      obtain rfl := List.mem_singleton.mp (show q ∈ [p] from hq)
      exact (f3 b hb).1.2.2.2.2.2 q hp⟩
  have loop : codeAny (model X.prog X.w) X.A (.compLoop (.ListComp elt [⟨tg, iter, ifs, 0⟩] scope pos) 0 (.ref it) (.ref D) ce) (compPost (model X.prog X.w) X.A X.xe use Qf (.ref D) s3.heap.objs.size) s4 := by
    refine compLoop_any (fun n s' => ∃ i H', Inv (X.blk s3 H3 scope ce fp) [p] (wipe σ (own.map (·.2))) H' s' ∧ tn i s'.heap ∧ (∀ b ∈ fp, H' b = none) ∧ W i n H') ?_ m0 ⟨0, H3, I4, st4, nfp, w0⟩
    rintro n s5 ⟨i, H5, I5, st5, n5, w5⟩
    rcases turn i n H5 w5 with ⟨stop, qq⟩ | ⟨go, Nx, hNx, step⟩
    · have td := T.done (X.blk s3 H3 scope ce fp) rfl rfl rfl i [p] s5 _ H5 (fun _ _ => False) ⟨p, hh, List.mem_singleton_self p⟩ I5 (stat I5 n5) st5 stop
      refine thnF td fun r s6 ⟨hr, I6⟩ => ?_
      subst hr
      -- back in the def's context
      have I7 : Inv X pins σ H5 s6 := I3.call' (ch := fp) I6.os I6.base I6.hok I6.bare fun b hb => ⟨(f3 b hb).1.2.2.2.1, (f3 b hb).1.2.1, (f3 b hb).1.2.2.2.2.1, (f3 b hb).1.2.2.2.2.2⟩
      have nC : H5 s3.heap.objs.size = none := by
        have z : H5 ce.locals = none := I6.free
        rw [cL] at z
        exact z
      obtain ⟨m, hn, _⟩ := I6.loc
      have hn : s6.heap.Ns ce.locals m := hn
      rw [cL] at hn
      exact hRR D s3.heap.objs.size s6 m H5 I7 qq hn (I3.fpOk (Nat.le_refl _) nC)
    · have ti := T.item (X.blk s3 H3 scope ce fp) rfl rfl rfl i [p] s5 _ H5 (fun _ _ => False) I5 (stat I5 n5) st5 go
      refine thnF ti fun r s6 ⟨u, hr, h6⟩ => ?_
      subst hr
      refine thnF h6 fun _ s7 ⟨x, H7, I7, r7, y7, st7, n7⟩ => ?_
      have I7' := I7.pinned (stat I7 n7) (T.obj _ _ st7)
      refine thnF (pg.run _ s7 _ H7 x u _ (by simp) I7' r7 (step x H7 y7)) fun _ s8 ⟨σ8, H8, I8, hw8, q8⟩ => ?_
      refine thnF (pt.run _ s8 σ8 H8 _ I8 q8) fun b s9 ⟨H9, I9, q9⟩ => ?_
      -- the turn's end
      have fin : ∀ {s' : Shared} {H' : Hp}, Inv (X.blk s3 H3 scope ce fp) ([p] ++ pinsAt fp s7.heap) σ8 H' s' → Nx H' → ∃ m, m < n ∧ ∃ i H', Inv (X.blk s3 H3 scope ce fp) [p] (wipe σ (own.map (·.2))) H' s' ∧ tn i s'.heap ∧ (∀ b ∈ fp, H' b = none) ∧ W i m H' := fun {s' H'} I' nx => by
        obtain ⟨m', hm, w'⟩ := hNx H' nx
        have pin' : ∀ b ∈ fp, ∀ o, s7.heap.get? b = some o → s'.heap.get? b = some o ∧ H' b = none := fun b hb o e =>
          let z := I'.pin (b, o) (List.mem_append_right _ (List.mem_append_right _ (mem_pinsAt hb e)))
          ⟨z.1, z.2.1⟩
        have hl : (wipe σ (own.map (·.2))).length = σ8.length := by rw [← hw8, wipe_length]
        refine ⟨m', hm, i + 1, H', (I'.unpinned (pins := [p])).weak hl (fun j v e => ?_), T.keep _ _ _ st7 fun b hb o e => (pin' b hb o e).1, fun b hb => ?_, w'⟩
        · rw [← hw8] at e
          exact (wipe_some e).1
        · obtain ⟨o, e, _⟩ := T.obj _ _ st7 b hb
          exact (pin' b hb o e).2
      cases b with
      | false =>
        simp only [Bool.false_eq_true, if_false] at q9 ⊢
        exact fin I9 q9
      | true =>
        simp only [if_true] at q9 ⊢
        refine thnF (pe.run _ s9 σ8 H9 _ I9 q9) fun z s10 ⟨yv, H10, I10, r10, acc, hD10, hz10, nx⟩ => ?_
        exact app_ok (X := X.blk s3 H3 scope ce fp) I10 hD10 hz10 r10 fun s11 I11 => fin I11 nx
  exact codeAny_compStart_list loop (T.self X.A 0 _ _ _ st4 loop)
/-- zip(a, b) of lists, to be walked hot -/
theorem pip_zip {e e2 : Expr} {ta : TA} {p pos tpos : Pos} {elts : List Expr} {kk : Nat} (hg : Gl X "zip") (hm : X.mg "zip" = none) (ha : PA X [e, e2] ta) (hs : notStar e = true) (hs2 : notStar e2 = true) : PIP X (.Tuple elts kk tpos) (.Call (.Name "zip" p) [e, e2] [] pos) (iZip X.K ta) := by
  refine ⟨fun pins s σ H R I h => Call_ (ld_blt I hg hm PyProof.Rows.boot_zip (PyProof.Rows.callWith_type1 (thn (ha.run pos pins s σ H _ I h) fun us s1 ⟨vs, H1, I1, r1, q1⟩ => ?_) (star_cons hs) (star_any (by simp [hs2]))))⟩
  obtain ⟨a, b, xs, ys, ex, hqx, hqy, q⟩ := q1
  subst ex
  obtain ⟨u1, u2, rfl, r1', r2'⟩ := r1.two
  cases r1'
  cases r2'
  obtain ⟨its, rv, p1, _⟩ := I1.list hqx
  obtain ⟨its2, rv2, p2, _⟩ := I1.list hqy
  refine call_zip_2 p1.isList p2.isList fun h' hz hTI hTO h1 h2 hsz hk => wpAny_pyIter_zip hz ?_
  refine ⟨s1.heap.objs.size + 4, [s1.heap.objs.size + 4, s1.heap.objs.size + 2, s1.heap.objs.size + 3, s1.heap.objs.size, s1.heap.objs.size + 1], _, _, H1, rfl, I1.kept (t' := s1.toks) hk, turnP_zip (PySem.W.ktu_apart s1.heap.objs.size a b p1.lt p2.lt), ⟨hz, hTI, ⟨_, _, hTO⟩, h1, h2⟩, fun c hcm => ?_, q⟩
  have hle : s1.heap.objs.size ≤ c := by
    have e' : c = s1.heap.objs.size + 4 ∨ c = s1.heap.objs.size + 2 ∨ c = s1.heap.objs.size + 3 ∨ c = s1.heap.objs.size ∨ c = s1.heap.objs.size + 1 := by simpa using hcm
    rcases e' with w | w | w | w | w <;> (rw [w]; show (_ : Nat) ≤ _; omega)
  exact I1.fpOk hle (I1.hok.fresh hle)
/-- [elt for .. in ..], hot -/
theorem pe_lcH {elt tg iter : Expr} {ifs : List Expr} {scope : Scope} {own : List (Str × Nat)} {pos : Pos} {wi : TI} {g : TG} {tt : TT} {te : TE} (p : Addr × Obj) (hp : p ∈ X.pn) (hh : L2H.Hot1 X.A p) (hN : X.N.Nodup) (hi : PIP X tg iter wi) (ok : BlkOk X.N X.env.scope scope own)
    (hg : ∀ (s : Shared) (H : Hp) (C : Addr) (cl : List (Str × Addr)) (fp : List Addr), PGp p (X.blk s H scope (compEnvC scope cl C X.env) fp) tg g) (ht : ∀ (s : Shared) (H : Hp) (C : Addr) (cl : List (Str × Addr)) (fp : List Addr), PTs (X.blk s H scope (compEnvC scope cl C X.env) fp) ifs tt)
    (he : ∀ (s : Shared) (H : Hp) (C : Addr) (cl : List (Str × Addr)) (fp : List Addr), PE (X.blk s H scope (compEnvC scope cl C X.env) fp) elt te) (hs : notSetD iter = true) : PE X (.ListComp elt [⟨tg, iter, ifs, 0⟩] scope pos) (tLc wi g tt te (own.map (·.2))) := by
  refine ⟨fun pins s σ H Q I h => ?_⟩
  rw [eval_ListComp]
  refine lc_hot p (List.mem_append_left _ hp) hh hN I hi ok hg ht he (folded_of hs) h fun D C s' m H' I' q hn f => ⟨m, hn, fun h'' sb => ?_⟩
  obtain ⟨f0, f1, f2, f3, f4, f5⟩ := f
  exact ⟨.ref D, H', I'.turned (t' := s'.toks) (fun b o hb e => (sb.2 b hb).trans e) f0 f1 f3 f4 f5, rfl, q⟩
end Rf

set_option maxRecDepth 100000
set_option maxHeartbeats 4000000
/-! Hx5: a def called with the handled exception; isinstance of it. -/
namespace Rf
open PySem PySem.Spec PyProof.Rows L2
/-- as L2H.FnH, the promise told of the handled exception p -/
structure FnP (P : Program) (w : World) (K : PySem.W.Frag) (mg : Str → Option Value) (base : Heap) (CX : CXT) (k : Nat) (f : Addr) (fd : FuncData) (ps : List Str) (sp : (Addr × Obj) → Sp) : Prop where
  len : ∀ p vs H Q E, sp p vs H Q E → vs.length = ps.length
  run : ∀ (A : Around) (outer : List Env) (s : Shared) (H : Hp) (args : Args) (us : List Value) (vs : List V) (Q : VK) (E : XK) (p : Addr × Obj), L2H.RoomH k A → L2H.Hot1 A p → L2H.PinOk outer H s p → L2.Env0 P w K mg base A outer s H → BindsTo s fd args (ps.zip us) → Vals vs us → sp p vs H Q E →
    codeAny (model P w) A (.call (.ref f) args) (CR CX outer P w H s Q E) s
theorem fnP_of {CX : CXT} {P : Program} {w : World} {K : PySem.W.Frag} {mg : Str → Option Value} {base : Heap} {k : Nat} {f : Addr} {name qual : Str} {params : Arguments} {body : List Stmt} {scope : Scope} {dV kV doc pm cdv ct oc : Value} {an od : Option Addr}
    {osl : Array (Option Value)} {N ps : List Str} {sp : (Addr × Obj) → Sp} (lk : K.lookup f = some ⟨oc, od, .func (PySem.W.fnOf name qual params body scope dV kV doc pm an cdv ct), osl⟩) (hcd : PySem.W.codeIn K cdv qual = true) (S : FnScope N ps scope) (len : ∀ p vs H Q E, sp p vs H Q E → vs.length = ps.length)
    (hbody : ∀ (A : Around) (outer : List Env) (s : Shared) (H : Hp) (vs : List V) (Q : VK) (E : XK) (p : Addr × Obj), L2H.Hot1 A p → L2H.RoomH k (A.deeper (envOfC qual scope s.heap.objs.size f cdv)) → sp p vs H Q E →
      ∃ t, PSs (L2H.cxH CX P w K mg base N qual scope f cdv A outer s H E p) body t ∧ t { nx := fun _ H' => Q .non H', rt := Q } (L2.start N vs) H) :
    FnP P w K mg base CX (k + 1) f (PySem.W.fnOf name qual params body scope dV kV doc pm an cdv ct) ps sp := by
  refine ⟨len, ?_⟩
  intro A outer s H args us vs Q E p hr hot hpin e0 hb r hsp
  have inAll : ∀ b o, base.get? b = some o → s.heap.get? b = some o := fun b o e => (e0.bs b o e).1
  have kIn : K.In s.heap := e0.mod.kin.keeps inAll
  have noLim : s.heap.NoLimit := e0.mod.nolimit.keeps inAll
  have kinds : ∀ y ∈ ps.zip us, scope.names.lookup y.1 = some .local ∨ (scope.names.lookup y.1 = some .cell ∧ ((cellsFrom (s.heap.objs.size + 1) scope.names []).lookup y.1).isSome = true) := by
    rintro ⟨n, v⟩ hy
    rcases S.par n (List.of_mem_zip hy).1 with q | q
    · exact .inl q
    · exact .inr ⟨q, PySem.W.cellsFrom_some _ _ _ (.inl q)⟩
  refine codeAny_call_function hr.depth (kIn _ _ lk) rfl S.co S.gen rfl (PySem.W.codeRec_of kIn hcd) (hb _ _ _ _ ?_)
  refine wpAny_newFunctionEnv_cells S.kind kinds fun env he s1 x => ?_
  subst he
  refine ⟨noLim.keeps x.toInCall.keep, codeAny_func ?_⟩
  obtain ⟨t, ht, hq⟩ := hbody A outer s H vs Q E p hot (hr.deeper _) hsp
  have I := L2H.inv_startH (CX := CX) (E := E) S hpin e0 (len _ _ _ _ _ hsp) r x
  refine wpAny_mono (ht.run [] s1 (L2.start N vs) H _ I hq) (fun fl s' hs => ?_) fun e s' hs => hs
  cases fl with
  | ret u =>
    obtain ⟨v, σ', H', J, rv, q⟩ := hs
    exact ⟨v, H', J.os, J.bare, J.base, J.hok, rv, q⟩
  | next =>
    obtain ⟨σ', H', J, q⟩ := hs
    exact ⟨V.non, H', J.os, J.bare, J.base, J.hok, rfl, q⟩
  | brk => exact False.elim hs.choose_spec.choose_spec.2
  | cont => exact False.elim hs.choose_spec.choose_spec.2
/-- such a def called by its name, p handled -/
theorem pe_callP {X : Cx} {CX : CXT} {k : Nat} {f : Addr} {fd : FuncData} {ps : List Str} {sp : (Addr × Obj) → Sp} {E : L2.St → XK} {x : Str} {q pos : Pos} {e : Expr} {es : List Expr} {t : TA} {p : Addr × Obj}
    (F : FnP X.prog X.w X.K X.mg X.base CX k f fd ps sp) (hr : L2H.RoomH k X.A) (hot : L2H.Hot1 X.A p) (hp : p ∈ X.pn) (hg : Gl X x) (hm : X.mg x = some (.ref f)) (hk : PySem.W.keepIn X.K (.ref f) = true) (hb : Binds X.K fd ps []) (hx : ∀ σ, PassesAt CX X σ (E σ))
    (ha : PA X (e :: es) t) (hdb : (x == ("__debug__" : Str)) = false := by decide) (he : starEach (e :: es) X.env = (false, eval e X.env) :: starEach es X.env := by rfl) (hpl : (backTo pos (starEach es X.env)).any (·.1) = false := by rfl) :
    PE X (.Call (.Name x q) (e :: es) [] pos) (tCallS (sp p) E t) := by
  refine ⟨fun pins s σ H Q I h => ?_⟩
  refine wpAny_Call_Name_kw (ld_glob I hg hm ?_ hdb)
  refine PySem.W.callWith_K (h₀ := X.base) I.ok.mod.kin hk (thn (ha.run pos pins s σ H _ I h) fun us s1 ⟨vs, H1, I1, r, z⟩ => ⟨I1.kIn, ?_⟩) he hpl
  have b := hb s1 us I1.kIn (by rw [List.append_nil, ← r.length]; exact F.len _ _ _ _ _ z)
  rw [List.append_nil] at b
  have P1 := I1.pin p (List.mem_append_left _ hp)
  have pin : L2H.PinOk X.stack H1 s1 p := ⟨P1.1, P1.2.1, fun hm => (List.mem_cons.mp (I1.stkSub p.1 hm)).elim P1.2.2.1 P1.2.2.2.1, P1.2.2.2.2⟩
  refine wpAny_call (codeAny_mono (F.run X.A X.stack s1 H1 ⟨us, []⟩ us vs Q (E σ) p hr hot pin I1.env0 b r z) fun r' s' hq => ?_)
  cases r' with
  | error er => exact hx σ pins H1 s1 er s' I1 hq
  | ok fl =>
    cases fl with
    | ret u => exact I1.after hq
    | next => exact False.elim hq
    | brk => exact False.elim hq
    | cont => exact False.elim hq
/-- isinstance(e, c), e the handled exception -/
theorem call_isP {X : Cx} {a D : Addr} {oe : Obj} (hp : (a, oe) ∈ X.pn) (C : ExcC X.K D) (hz : Zc (.ref D) none oe) (hf : ∃ vs, oe.data = .fields vs) : CallR X (.builtin "isinstance") (rIsE X.K D a) := by
  intro pins s σ H xs us Q I r h
  obtain ⟨c, cv, b, rfl, hcv, e, q⟩ := h
  obtain ⟨u1, u2, rfl, rx, rt⟩ := r.two
  cases rx
  obtain rfl := hcv _ rt
  have hget := (I.pin (a, oe) (List.mem_append_left _ hp)).1
  obtain ⟨vs, hv⟩ := hf
  have J : PySem.W.InstAt s.heap a oe D none := by
    obtain ⟨oc, od, oda, osl⟩ := oe
    obtain ⟨h1, h2⟩ := hz
    dsimp only at h1 h2 hv
    subst h1 h2 hv
    exact ⟨hget, rfl, rfl, trivial⟩
  exact PySem.W.kia_one (PySem.W.handS_kitx_exc C.hg C.hk C.hs C.hd C.ha C.hn C.ht C.hm) I.kIn J e (fun z => nomatch z) fun tk => ⟨.bl b, H, I.kept (t' := tk) fun _ _ z => z, rfl, q⟩
end Rf

set_option maxRecDepth 100000
set_option maxHeartbeats 4000000
/-! Hx6: several clauses 'except x as n'. -/
namespace Rf
open PySem PySem.Spec PyProof.Rows L2 L2N
abbrev TSx := Addr → Value → Option Addr → TS
/-- the ends of a suite behind which slot i goes -/
def gone (i : Nat) (D : Ends) : Ends := { nx := fun σ' H' => D.nx (σ'.set i none) H', rt := D.rt, bk := fun σ' H' => D.bk (σ'.set i none) H', ct := fun σ' H' => D.ct (σ'.set i none) H' }
/-- what the clauses wish of an exception: each has its class, its name's slot, its suite -/
def wMs (K : PySem.W.Frag) (Wout : WX) (D : Ends) : List (Value × Nat × TSx) → WX
  | [] => Wout
  | (c, i, ts) :: r => fun cls d σ H => ∃ b, PySem.W.exmOne K cls c = some b ∧ (b = true → ∀ a, H a = none → ts a cls d (gone i D) (σ.set i (some (.ref a))) H) ∧ (b = false → wMs K Wout D r cls d σ H)
inductive HdsAs (X : Cx) : List ExceptHandler → List (Value × Nat × TSx) → Prop
  | nil : HdsAs X [] []
  | cons {x n : Str} {c : Value} {i : Nat} {ts : TSx} {b₀ : Stmt} {suite : List Stmt} {np pos' : Pos} {hds : List ExceptHandler} {l : List (Value × Nat × TSx)} (hc : Names X x c) (hi : X.N[i]? = some n) (hln : X.env.kindOf n = some .local)
      (hsu : ∀ (a : Addr) (oe : Obj) (cls : Value) (d : Option Addr) (pn : List (Addr × Obj)), Zn cls d oe → (∃ vs, oe.data = .fields vs) → PSs (X.suite a ((a, oe) :: pn)) (b₀ :: suite) (ts a cls d)) (r : HdsAs X hds l) :
      HdsAs X (.ExceptHandler (some (.Name x np)) (some n) (b₀ :: suite) pos' :: hds) ((c, i, ts) :: l)
section
variable {X : Cx} {body : List Stmt} {h₀ : ExceptHandler} {hds : List ExceptHandler} {l : List (Value × Nat × TSx)} {pos : Pos} {tb : WX → TS} {Wout : WX}
/-- where the caught object stands: the clauses are looked through -/
theorem ps_try_ms (hs : X.stack = X.env :: X.outer) (hf : X.env.frame = some X.env.locals) (hN : X.N.Nodup) (tk : L2N.Takes X Wout)
    (hb : ∀ (W : WX) (pn : List (Addr × Obj)) (xe : Value → Shared → Prop), L2N.Takes (X.tr pn xe) W → PassesOwn (model X.prog X.w) X.A X.env xe → PSs (X.tr pn xe) body (tb W))
    (hh : HdsAs X (h₀ :: hds) l) : PS X (.Try body (h₀ :: hds) [] [] pos) (fun D σ H => tb (wMs X.K Wout D l) D σ H) := by
  refine ⟨fun pins s σ H D I h => ?_⟩
  have ok := I.ok
  have hfr : X.A.frames = some (X.env :: X.outer) := by rw [ok.frames, hs]
  refine wpAny_Try_except ?_
  refine wpAny_mono ((hb (wMs X.K Wout D l) (X.pn ++ pins) (fun e s₁ => wpAny (model X.prog X.w) X.A (noteFrame e X.env) (fun _ s₂ => wpAny (model X.prog X.w) X.A (setFlight e none) (fun _ s₃ =>
    wpAny (model X.prog X.w) X.A (handleBy e X.env (h₀ :: hds)) (SP X pins D) X.xe s₃) X.xe s₂) X.xe s₁) (fun u s' xx => ?_) PassesOwn.looking).run [] s σ H D (I.toTry _) h) (fun f s1 hsp => ?_) (fun e s1 he => he)
  · obtain ⟨a, B, sI, pins', σ', H', cls, d, rfl, J', nb, up, sky, na, os, ag, w⟩ := xx
    have J : Inv X pins σ' H' sI := J'.ofTry ok
    have sky' : Sky B (X.env :: X.outer) a (Zn cls d) X.env.locals s'.heap := by rw [← hs]; exact sky
    show wpAny (model X.prog X.w) X.A (noteFrame (.ref a) X.env) _ _ _
    refine Sky.land Zn.steady hfr hf sky' fun h3 fl3 up3 => ?_
    have J3 : Inv X pins σ' H' { s' with heap := h3 } := J.landed nb fl3.1 (up.trans up3) os ag
    obtain ⟨oe3, vs3, he3, hz3, hd3⟩ := fl3.there
    have nfr : a ∉ frs (X.env :: X.outer) := fun hm => by
      obtain ⟨_, o', e', hnf⟩ := fl3.2.2.1.mem hm
      rw [he3] at e'; cases e'
      exact hnf _ hd3
    have nL : a ≠ X.env.locals := fun z => nfr (List.mem_filterMap.mpr ⟨X.env, List.mem_cons_self, by rw [hf, z]⟩)
    have nF : a ∉ X.fs := fun hm => by
      obtain ⟨e, he, q⟩ := List.mem_filterMap.mp hm
      exact nfr (List.mem_filterMap.mpr ⟨e, List.mem_cons_of_mem _ he, q⟩)
    have S3 := J3.suite he3 hd3 na nL nF
    have go : ∀ {hds' : List ExceptHandler} {l' : List (Value × Nat × TSx)}, HdsAs X hds' l' → wMs X.K Wout D l' cls d σ' H' →
        wpAny (model X.prog X.w) X.A (handleBy (.ref a) X.env hds') (SP X pins D) X.xe { s' with heap := h3 } := by
      intro hds' l' hk
      induction hk with
      | nil =>
        intro w
        refine wpAny_handleBy_nil ?_
        obtain ⟨k1, k2, k3, oe, vs, T, oT, ts', he, hz, hd, h1, hr⟩ := id fl3
        unfold PySem.passOn
        refine wpAny_bind (wpAny_field he hd h1 ?_)
        rw [if_neg (show ¬ ((Value.ref T == Value.none) = true) from by simp)]
        have fin : wpAny (model X.prog X.w) X.A (setFlight (.ref a) X.env.frame) (fun _ s4 => wpAny (model X.prog X.w) X.A (throw (.ref a) : Sem Flow) (SP X pins D) X.xe s4) X.xe { s' with heap := h3 } := by
          rw [hf]
          refine HandSPX.setFlight_upZ fl3 fun h4 hh4 up4 => wpAny_throw (tk _ _ ?_)
          exact ⟨a, B, sI, pins, σ', H', cls, d, rfl, J, nb, (up.trans up3).trans up4, .inr (.inr (by rw [hs]; exact hh4)), na, os, ag, w⟩
        first
          | exact wpAny_bind (wpAny_pure (wpAny_bind fin))
          | exact wpAny_bind fin
      | @cons x n c i ts b₀ suite np pos' hds2 l2 hc hi hln hsu r ih =>
        intro w
        obtain ⟨b, hb1, hyes, hno⟩ := w
        refine wpAny_handleBy_cons (codeAny_handlers_test ?_) (by intro q; cases q)
        have LT : PySem.W.Looks (model X.prog X.w) h3 (typeOf (.ref a)) cls := fun A Q E s k q => wpAny_typeOf_ref (k _ _ he3) (by rw [hz3.1]; exact q)
        have LM := PySem.W.exm_one (M := model X.prog X.w) (J3.kIn) LT hb1
        have test : ∀ {Q : Value → Shared → Prop} {E : Value → Shared → Prop}, Q c { s' with heap := h3 } → wpAny (model X.prog X.w) (X.A.mark (some (.ref a))) (eval (.Name x np) X.env) Q E { s' with heap := h3 } := fun {Q E} q => by
          obtain ⟨hg, hdbg, hm | ⟨hm, hv, hnn⟩⟩ := hc
          · exact ld_glob (X := X.suite a ((a, oe3) :: (X.pn ++ pins))) S3 hg hm q hdbg
          · exact ld_blt (X := X.suite a ((a, oe3) :: (X.pn ++ pins))) S3 hg hm hv q hnn hdbg
        refine test (LM.here ?_)
        cases b with
        | true =>
          refine codeAny_handlers_suite_as ?_
          refine HandSPX.lands_againZ fl3 fun h4 fl4 up4 => ?_
          have J4 : Inv X pins σ' H' { s' with heap := h4 } := J.landed nb fl4.1 ((up.trans up3).trans up4) os ag
          obtain ⟨oe4, vs4, he4, hz4, hd4⟩ := fl4.there
          have S4 := J4.suite he4 hd4 na nL nF
          refine store_ok (X := X.suite a ((a, oe4) :: (X.pn ++ pins))) (v := .ref a) S4 hN hi (.inl hln) rfl (fun s5 S5 => ?_) (.inr hln)
          refine wpAny_mono ((hsu a oe4 cls d (X.pn ++ pins) hz4 ⟨_, hd4⟩).run [] s5 _ H' _ S5 (hyes rfl a na)) (fun f s6 hsp => ?_) (fun _ _ z => False.elim z)
          have off : ∀ {σ6 : L2.St} {H6 : Hp} {Q : Shared → Prop}, Inv (X.suite a ((a, oe4) :: (X.pn ++ pins))) [] σ6 H6 s6 → (∀ s7, Inv X pins (σ6.set i none) H6 s7 → Q s7) →
              wpAny (model X.prog X.w) X.A (do bindName X.env n .none; unbindBehindTheSuite X.env n pos') (fun _ s7 => Q s7) X.xe s6 := fun {σ6 H6 Q} S6 hq => gone_ok (S6.unsuite ok) hN hi hln hq
          cases f with
          | next => exact off hsp.choose_spec.choose_spec.1 fun s7 J7 => ⟨_, _, J7, hsp.choose_spec.choose_spec.2⟩
          | brk => exact off hsp.choose_spec.choose_spec.1 fun s7 J7 => ⟨_, _, J7, hsp.choose_spec.choose_spec.2⟩
          | cont => exact off hsp.choose_spec.choose_spec.1 fun s7 J7 => ⟨_, _, J7, hsp.choose_spec.choose_spec.2⟩
          | ret u =>
            obtain ⟨v6, σ6, H6, S6, r6, q6⟩ := hsp
            exact off S6 fun s7 J7 => ⟨_, _, _, J7, r6, q6⟩
        | false =>
          show wpAny _ X.A (handleBy (.ref a) X.env hds2) _ _ _
          exact ih (hno rfl)
    exact go hh w
  · cases f with
    | next =>
      obtain ⟨σ', H', J', q⟩ := hsp
      exact wpAny_execs_nil ⟨σ', H', J'.ofTry ok, q⟩
    | brk =>
      obtain ⟨σ', H', J', q⟩ := hsp
      exact ⟨σ', H', J'.ofTry ok, q⟩
    | cont =>
      obtain ⟨σ', H', J', q⟩ := hsp
      exact ⟨σ', H', J'.ofTry ok, q⟩
    | ret u =>
      obtain ⟨v, σ', H', J', r, q⟩ := hsp
      exact ⟨v, σ', H', J'.ofTry ok, r, q⟩
end
end Rf

set_option maxRecDepth 100000
set_option maxHeartbeats 4000000
/-! Hx7: isinstance of the handled exception, as an expression. -/
namespace Rf
open PySem PySem.Spec PyProof.Rows L2
/-- isinstance(x, c): x's slot i holds the handled exception -/
theorem pe_is {X : Cx} {a D : Addr} {oe : Obj} {i : Nat} {x c : Str} {p p1 p2 pos : Pos} {v : V} {cv : Value} {b : Bool} (hp : (a, oe) ∈ X.pn) (C : ExcC X.K D) (hz : Zc (.ref D) none oe) (hf : ∃ vs, oe.data = .fields vs)
    (hgI : Gl X "isinstance") (hmI : X.mg "isinstance" = none) (hx : PE X (.Name x p1) (tVar i)) (hc : PE X (.Name c p2) (L2.tC v)) (hv : ∀ u, RelV v u → u = cv) (hk : PySem.W.kitOne X.K (.ref D) cv = some b) :
    PE X (.Call (.Name "isinstance" p) [.Name x p1, .Name c p2] [] pos) (fun σ H Q => σ[i]? = some (some (.ref a)) ∧ Q (.bl b) H) :=
  (pe_callB (call_isP hp C hz hf) hgI hmI (by decide +kernel) (pa_cons hx (pa_cons hc pa_nil))).weak fun σ H Q ⟨h1, h2⟩ => ⟨_, h1, v, cv, b, rfl, hv, hk, h2⟩
/-- such calls one beside another, with what they answer -/
inductive IsA (X : Cx) (i : Nat) (a : Addr) : List Expr → List Bool → Prop
  | nil : IsA X i a [] []
  | cons {e : Expr} {es : List Expr} {b : Bool} {bs : List Bool} (h : PE X e (fun σ H Q => σ[i]? = some (some (.ref a)) ∧ Q (.bl b) H)) (hs : notStar e = true) (r : IsA X i a es bs) : IsA X i a (e :: es) (b :: bs)
theorem IsA.pa {X : Cx} {i : Nat} {a : Addr} {es : List Expr} {bs : List Bool} (h : IsA X i a es bs) : PA X es (fun σ H Q => σ[i]? = some (some (.ref a)) ∧ Q (bs.map .bl) H) := by
  induction h with
  | nil => exact ⟨fun pos pins s σ H Q I q => pa_nil.run pos pins s σ H Q I q.2⟩
  | cons h hs r ih => exact ⟨fun pos pins s σ H Q I q => (pa_cons h ih (star_cons hs)).run pos pins s σ H Q I ⟨q.1, q.1, q.2⟩⟩
/-- [isinstance(..), ..] -/
theorem pe_lstIs {X : Cx} {i : Nat} {a : Addr} {es : List Expr} {bs : List Bool} {pos : Pos} (h : IsA X i a es bs) (hl : bs.length ≤ 1000) : PE X (.List es pos) (fun σ H Q => σ[i]? = some (some (.ref a)) ∧ ∀ p, H p = none → Q (.ref p) (upd H p (.lst (bs.map .bl)))) :=
  (pe_lst h.pa).weak fun σ H Q q => ⟨q.1, (by rw [List.length_map]; have := sizeLine_eq; omega), q.2⟩
/-- y + L, L a display with the values zs (under B) -/
theorem pe_catVar {X : Cx} {j : Nat} {B : L2.St → Prop} {zs : List V} {y : Str} {q pos : Pos} {L : Expr} (hy : PE X (.Name y q) (tVar j)) (hL : PE X L (fun σ H Q => B σ ∧ ∀ p, H p = none → Q (.ref p) (upd H p (.lst zs)))) :
    PE X (.BinOp (.Name y q) .Add L pos) (fun σ H Q => ∃ l xs, σ[j]? = some (some (.ref l)) ∧ H l = some (.lst xs) ∧ B σ ∧ xs.length + zs.length ≤ 1000 ∧ ∀ p p2, H p = none → upd H p (.lst zs) p2 = none → Q (.ref p2) (upd (upd H p (.lst zs)) p2 (.lst (xs ++ zs)))) :=
  (pe_op op_cat hy hL).weak fun σ H Q ⟨l, xs, h1, h2, hB, hn, h⟩ => by
    refine ⟨.ref l, h1, hB, fun p hp => ⟨l, p, xs, zs, rfl, rfl, ?_, ?_, by have := sizeLine_eq; omega, fun p2 h2' => h p p2 hp h2'⟩⟩
    · have ne : l ≠ p := fun z => by rw [z, hp] at h2; cases h2
      unfold upd; rw [if_neg ne]; exact h2
    · unfold upd; rw [if_pos rfl]
/-- what stands grows only -/
def Grow (H0 H : Hp) : Prop := ∀ b o, H0 b = some o → H b = some o
theorem Grow.upd {H0 H : Hp} {p : Addr} {o : HO} (g : Grow H0 H) (hp : H p = none) : Grow H0 (L2.upd H p o) := fun b o' h => by
  have ne : b ≠ p := fun z => by have := g b o' h; rw [z, hp] at this; cases this
  unfold L2.upd; rw [if_neg ne]; exact g b o' h
end Rf

set_option maxRecDepth 100000
set_option maxHeartbeats 4000000
/-! Hx8: the words whose truths hold, picked by a zip. -/
namespace Rf
open PySem PySem.Spec PyProof.Rows L2
def picked (ws : List Str) (bs : List Bool) (i : Nat) : List Str := (((ws.zip bs).take i).filter (·.2)).map (·.1)
theorem picked_succ {ws : List Str} {bs : List Bool} {i : Nat} {w : Str} {b : Bool} (h1 : ws[i]? = some w) (h2 : bs[i]? = some b) : picked ws bs (i + 1) = picked ws bs i ++ (if b = true then [w] else []) := by
  have hz : (ws.zip bs)[i]? = some (w, b) := by rw [List.getElem?_zip_eq_some]; exact ⟨h1, h2⟩
  obtain ⟨hl, hg⟩ := List.getElem?_eq_some_iff.mp hz
  unfold picked
  rw [List.take_succ, List.filter_append, List.map_append, hz]
  cases b <;> rfl
theorem picked_all {ws : List Str} {bs : List Bool} {i : Nat} (h : ws.length ≤ i) : picked ws bs i = ((ws.zip bs).filter (·.2)).map (·.1) := by
  unfold picked
  rw [List.take_of_length_le (by rw [List.length_zip]; omega)]
theorem lz_go {K : PySem.W.Frag} {σ : L2.St} {H1 : Hp} {Q : VK} {lw lb : Addr} {ws : List Str} {bs : List Bool} (hσ : 5 ≤ σ.length) (hw : H1 lw = some (.lst (ws.map .str))) (hb : H1 lb = some (.lst (bs.map .bl))) (hl : ws.length = bs.length) (hl2 : ws.length ≤ 1000)
    (hQ : ∀ D H, Grow H1 H → H D = some (.lst ((((ws.zip bs).filter (·.2)).map (·.1)).map .str)) → Q (.ref D) H) :
    ∀ D, H1 D = none → ∃ W : Nat → Nat → Hp → Prop, (∃ m, W 0 m (upd H1 D (.lst []))) ∧ ∀ i m H, W i m H →
      ((Itz K lw lb).stop i H ∧ Q (.ref D) H) ∨ ((Itz K lw lb).go i H ∧ ∃ Nx : Hp → Prop, (∀ H', Nx H' → ∃ m', m' < m ∧ W (i + 1) m' H') ∧ ∀ x H', (Itz K lw lb).yld i H x H' →
        gTup K 2 (gCons (gName 3) (gCons (gName 4) gNil)) x (wipe σ [3, 4]) H' fun σ2 H2 => wipe σ2 [3, 4] = wipe σ [3, 4] ∧ (fun σ H (Q : Bool → Hp → Prop) => tVar 4 σ H fun x H' => ∃ k, TruV K x H' k ∧ Q k H') σ2 H2 fun b H3 =>
          if b = true then tVar 3 σ2 H3 fun y H4 => ∃ acc, H4 D = some (.lst acc) ∧ acc.length < sizeLine ∧ Nx (upd H4 D (.lst (acc ++ [y]))) else Nx H3) := by
  intro D hD
  have neD : ∀ {a o}, H1 a = some o → a ≠ D := fun {a o} h z => by rw [z, hD] at h; cases h
  refine ⟨fun i m H => m + i = ws.length ∧ Grow H1 H ∧ H D = some (.lst ((picked ws bs i).map .str)), ⟨ws.length, by omega, ?_, ?_⟩, ?_⟩
  · exact (Grow.upd (fun _ _ h => h) hD)
  · rw [upd_same]; rfl
  · rintro i m H ⟨hm, gr, hDl⟩
    have w1 := gr lw _ hw
    have b1 := gr lb _ hb
    have sw : SqL K H lw (ws.map .str) := .inl (.inl w1)
    have sb : SqL K H lb (bs.map .bl) := .inl (.inl b1)
    by_cases hi : i < ws.length
    · refine .inr ⟨?_, fun H' => (m - 1) + (i + 1) = ws.length ∧ Grow H1 H' ∧ H' D = some (.lst ((picked ws bs (i + 1)).map .str)), fun H' h => ⟨m - 1, by omega, h⟩, ?_⟩
      · obtain ⟨w, ew⟩ : ∃ w, ws[i]? = some w := ⟨_, List.getElem?_eq_getElem hi⟩
        obtain ⟨b, eb⟩ : ∃ b, bs[i]? = some b := ⟨_, List.getElem?_eq_getElem (by omega)⟩
        exact ⟨_, _, .str w, .bl b, sw, sb, by rw [List.getElem?_map, ew]; rfl, by rw [List.getElem?_map, eb]; rfl⟩
      · rintro x H' ⟨T, x1, y1, rfl, hT, rfl, hx, hy⟩
        obtain ⟨w, ew⟩ : ∃ w, ws[i]? = some w := ⟨_, List.getElem?_eq_getElem hi⟩
        obtain ⟨b, eb⟩ : ∃ b, bs[i]? = some b := ⟨_, List.getElem?_eq_getElem (by omega)⟩
        have e1 := hx _ sw
        have e2 := hy _ sb
        rw [List.getElem?_map, ew] at e1
        rw [List.getElem?_map, eb] at e2
        cases e1
        cases e2
        have neT : D ≠ T := fun z => by rw [z, hT] at hDl; cases hDl
        have gr2 : Grow H1 (upd H T (.tup [V.str w, V.bl b])) := gr.upd hT
        have hD2 : upd H T (.tup [V.str w, V.bl b]) D = some (.lst ((picked ws bs i).map .str)) := by rw [upd_ne neT]; exact hDl
        have pl : (picked ws bs i).length ≤ 1000 := by
          unfold picked
          rw [List.length_map]
          refine Nat.le_trans (List.length_filter_le _ _) ?_
          rw [List.length_take, List.length_zip]
          omega
        have ps := picked_succ ew eb
        refine ⟨T, [.str w, .bl b], rfl, .inl (.inl upd_same), rfl, .str w, [.bl b], rfl, .bl b, [], rfl, rfl, ?_, ?_⟩
        · apply List.ext_getElem?
          intro j
          simp only [wipe, List.getElem?_set, List.length_set]
          by_cases h3 : 3 = j
          · subst h3; simp
          · by_cases h4 : 4 = j
            · subst h4; simp
            · simp [h3, h4]
        · refine ⟨.bl b, ?_, b, rfl, ?_⟩
          · have : (wipe σ [3, 4]).length = σ.length := by simp [wipe]
            have l4 : 4 < (wipe σ [3, 4]).length := by omega
            simp [l4]
          · cases b with
            | false =>
              rw [if_neg (by decide)]
              rw [if_neg (by decide), List.append_nil] at ps
              exact ⟨by omega, gr2, by rw [ps]; exact hD2⟩
            | true =>
              rw [if_pos rfl]
              rw [if_pos rfl] at ps
              refine ⟨.str w, ?_, _, hD2, by rw [List.length_map]; have := sizeLine_eq; omega, by omega, ?_, ?_⟩
              · have : (wipe σ [3, 4]).length = σ.length := by simp [wipe]
                have l3 : 3 < (wipe σ [3, 4]).length := by omega
                simp [l3]
              · intro c o hc
                by_cases hcD : c = D
                · exact absurd hcD (neD hc)
                · rw [upd_ne hcD]; exact gr2 c o hc
              · rw [upd_same, ps, List.map_append]; rfl
    · refine .inl ⟨⟨_, _, sw, sb, .inl (by rw [List.length_map]; omega)⟩, hQ D H gr ?_⟩
      rw [hDl, picked_all (by omega)]
end Rf

set_option maxRecDepth 100000
set_option maxHeartbeats 4000000
/-! Hx9: what _law_name_of does, statement by statement. -/
namespace Rf
open PySem PySem.Spec PyProof.Rows L2
/-- what is known of the handled exception and of the classes' names -/
structure NmF (X : Cx) (a D : Addr) (oe : Obj) (kb : Str → Bool) (cs : List Str) : Prop where
  p : (a, oe) ∈ X.pn
  C : ExcC X.K D
  hz : Zc (.ref D) none oe
  hf : ∃ vs, oe.data = .fields vs
  hgI : Gl X "isinstance"
  hmI : X.mg "isinstance" = none
  hgV : Gl X "ValueError"
  hmV : X.mg "ValueError" = none
  kV : PySem.W.kitOne X.K (.ref D) (.type "ValueError") = some true
  gl : ∀ c ∈ cs, Gl X c ∧ (c == ("__debug__" : Str)) = false ∧ ∃ Dc, X.mg c = some (.ref Dc) ∧ PySem.W.kitOne X.K (.ref D) (.ref Dc) = some (kb c)
section
variable {X : Cx} {a D : Addr} {oe : Obj} {kb : Str → Bool} {cs : List Str}
theorem pe_isG {i : Nat} {x c : Str} {p p1 p2 pos : Pos} (F : NmF X a D oe kb cs) (hx : ∀ q : Pos, PE X (.Name x q) (tVar i)) (hc : c ∈ cs) :
    PE X (.Call (.Name "isinstance" p) [.Name x p1, .Name c p2] [] pos) (fun σ H Q => σ[i]? = some (some (.ref a)) ∧ Q (.bl (kb c)) H) := by
  obtain ⟨g, d, Dc, m, k⟩ := F.gl c hc
  exact pe_is F.p F.C F.hz F.hf F.hgI F.hmI (hx p1) (pe_glob (v := .ref Dc) g m rfl d) (fun u r => r) k
theorem boot_VE : bootBuiltins "ValueError" = some (.type "ValueError") := by decide +kernel
theorem pe_isV {i : Nat} {x : Str} {p p1 p2 pos : Pos} (F : NmF X a D oe kb cs) (hx : ∀ q : Pos, PE X (.Name x q) (tVar i)) :
    PE X (.Call (.Name "isinstance" p) [.Name x p1, .Name "ValueError" p2] [] pos) (fun σ H Q => σ[i]? = some (some (.ref a)) ∧ Q (.bl true) H) :=
  pe_is (v := .ty "ValueError") F.p F.C F.hz F.hf F.hgI F.hmI (hx p1) (pe_bltn F.hgV F.hmV boot_VE rfl (by decide +kernel) (by decide +kernel)) (fun u r => r) F.kV
/-- texts, one beside another -/
inductive StA (X : Cx) : List Expr → List Str → Prop
  | nil : StA X [] []
  | cons {s : Str} {j : Nat} {p : Pos} {es : List Expr} {ss : List Str} (r : StA X es ss) : StA X (.Constant (.str s) j p :: es) (s :: ss)
theorem StA.pa {es : List Expr} {ss : List Str} (h : StA X es ss) : PA X es (fun σ H Q => Q (ss.map .str) H) := by
  induction h with
  | nil => exact ⟨fun pos pins s σ H Q I q => pa_nil.run pos pins s σ H Q I q⟩
  | cons r ih => exact ⟨fun pos pins s σ H Q I q => (pa_cons pe_str ih (star_cons rfl)).run pos pins s σ H Q I q⟩
theorem pe_lstS {es : List Expr} {ss : List Str} {pos : Pos} (h : StA X es ss) (hl : ss.length ≤ 1000) : PE X (.List es pos) (fun σ H Q => True ∧ ∀ p, H p = none → Q (.ref p) (upd H p (.lst (ss.map .str)))) :=
  (pe_lst h.pa).weak fun σ H Q q => ⟨(by rw [List.length_map]; have := sizeLine_eq; omega), q.2⟩
/-- what stands: the exception, the truths, the words -/
structure StN (a : Addr) (H0 : Hp) (bs : List Bool) (ws : List Str) (σ : L2.St) (H : Hp) : Prop where
  len : σ.length = 5
  e : σ[0]? = some (some (.ref a))
  gr : Grow H0 H
  k : bs ≠ [] → ∃ l, σ[1]? = some (some (.ref l)) ∧ H l = some (.lst (bs.map .bl))
  w : ws ≠ [] → ∃ l, σ[2]? = some (some (.ref l)) ∧ H l = some (.lst (ws.map .str))
abbrev tI0 (a : Addr) (bs : List Bool) : TE := fun σ H Q => σ[0]? = some (some (.ref a)) ∧ ∀ p, H p = none → Q (.ref p) (upd H p (.lst (bs.map .bl)))
abbrev tCat (j : Nat) (B : L2.St → Prop) (zs : List V) : TE := fun σ H Q => ∃ l xs, σ[j]? = some (some (.ref l)) ∧ H l = some (.lst xs) ∧ B σ ∧ xs.length + zs.length ≤ 1000 ∧ ∀ p p2, H p = none → upd H p (.lst zs) p2 = none → Q (.ref p2) (upd (upd H p (.lst zs)) p2 (.lst (xs ++ zs)))
abbrev tS0 (ss : List Str) : TE := fun σ H Q => True ∧ ∀ p, H p = none → Q (.ref p) (upd H p (.lst (ss.map .str)))
theorem upd_old {H : Hp} {p l : Addr} {o u : HO} (hp : H p = none) (h : H l = some o) : upd H p u l = some o := by
  rw [upd_ne (fun z => by rw [z, hp] at h; cases h)]
  exact h
theorem st_k0 {H0 H : Hp} {bs : List Bool} {σ : L2.St} {D : Ends} (s : StN a H0 [] [] σ H) (h : ∀ σ' H', StN a H0 bs [] σ' H' → D.nx σ' H') : tAsg (tI0 a bs) (gName 1) D σ H := by
  refine ⟨s.e, fun p hp => h _ _ ⟨by rw [List.length_set]; exact s.len, by rw [List.getElem?_set_ne (by decide)]; exact s.e, s.gr.upd hp, fun _ => ⟨p, ?_, upd_same⟩, fun z => absurd rfl z⟩⟩
  rw [List.getElem?_set, if_pos rfl, if_pos (by rw [s.len]; decide)]
theorem st_k1 {H0 H : Hp} {bs cs : List Bool} {σ : L2.St} {D : Ends} (s : StN a H0 bs [] σ H) (hb : bs ≠ []) (hl : bs.length + cs.length ≤ 1000) (h : ∀ σ' H', StN a H0 (bs ++ cs) [] σ' H' → D.nx σ' H') : tAsg (tCat 1 (fun σ => σ[0]? = some (some (.ref a))) (cs.map .bl)) (gName 1) D σ H := by
  obtain ⟨l, e1, e2⟩ := s.k hb
  refine ⟨l, _, e1, e2, s.e, by rw [List.length_map, List.length_map]; exact hl, fun p p2 hp hp2 => h _ _ ⟨by rw [List.length_set]; exact s.len, by rw [List.getElem?_set_ne (by decide)]; exact s.e, (s.gr.upd hp).upd hp2, fun _ => ⟨p2, ?_, by rw [upd_same, List.map_append]⟩, fun z => absurd rfl z⟩⟩
  rw [List.getElem?_set, if_pos rfl, if_pos (by rw [s.len]; decide)]
theorem st_w0 {H0 H : Hp} {bs : List Bool} {ws : List Str} {σ : L2.St} {D : Ends} (s : StN a H0 bs [] σ H) (h : ∀ σ' H', StN a H0 bs ws σ' H' → D.nx σ' H') : tAsg (tS0 ws) (gName 2) D σ H := by
  refine ⟨trivial, fun p hp => h _ _ ⟨by rw [List.length_set]; exact s.len, by rw [List.getElem?_set_ne (by decide)]; exact s.e, s.gr.upd hp, fun hb => ?_, fun _ => ⟨p, ?_, upd_same⟩⟩⟩
  · obtain ⟨l, e1, e2⟩ := s.k hb
    exact ⟨l, by rw [List.getElem?_set_ne (by decide)]; exact e1, upd_old hp e2⟩
  · rw [List.getElem?_set, if_pos rfl, if_pos (by rw [s.len]; decide)]
theorem st_w1 {H0 H : Hp} {bs : List Bool} {ws us : List Str} {σ : L2.St} {D : Ends} (s : StN a H0 bs ws σ H) (hw : ws ≠ []) (hl : ws.length + us.length ≤ 1000) (h : ∀ σ' H', StN a H0 bs (ws ++ us) σ' H' → D.nx σ' H') : tAsg (tCat 2 (fun _ => True) (us.map .str)) (gName 2) D σ H := by
  obtain ⟨l, e1, e2⟩ := s.w hw
  refine ⟨l, _, e1, e2, trivial, by rw [List.length_map, List.length_map]; exact hl, fun p p2 hp hp2 => h _ _ ⟨by rw [List.length_set]; exact s.len, by rw [List.getElem?_set_ne (by decide)]; exact s.e, (s.gr.upd hp).upd hp2, fun hb => ?_, fun _ => ⟨p2, ?_, by rw [upd_same, List.map_append]⟩⟩⟩
  · obtain ⟨l2, e3, e4⟩ := s.k hb
    exact ⟨l2, by rw [List.getElem?_set_ne (by decide)]; exact e3, upd_old hp2 (upd_old hp e4)⟩
  · rw [List.getElem?_set, if_pos rfl, if_pos (by rw [s.len]; decide)]
/-- the joined words -/
def nameS (ws : List Str) (bs : List Bool) : Str := Txt.join "" (((ws.zip bs).filter (·.2)).map (·.1))
abbrev tZip (K : PySem.W.Frag) (B : L2.St → Prop) : TE := tLc (iZip K (tCons (tVar 2) (tCons (tCat 1 B [.bl true]) tNil))) (gTup K 2 (gCons (gName 3) (gCons (gName 4) gNil))) (fun σ H (Q : Bool → Hp → Prop) => tVar 4 σ H fun x H' => ∃ k, TruV K x H' k ∧ Q k H') (tVar 3) [3, 4]
abbrev tNm (K : PySem.W.Frag) (B : L2.St → Prop) : TE := tM1 (fun (x : V) (xs : List V) H Q => ∃ a p, ∃ ys : List Str, x = V.str a ∧ xs = [V.ref p] ∧ (SqL K H p (ys.map V.str) ∨ SqT K H p (ys.map V.str)) ∧ (ys.map (·.length)).sum + ys.length * a.length ≤ 16777216 ∧ Q (V.str (Txt.join a ys)) H) (L2.tC (V.str "")) (tZip K B)
theorem st_ret {K : PySem.W.Frag} {H0 H : Hp} {bs : List Bool} {ws : List Str} {σ : L2.St} {D : Ends} (s : StN a H0 bs ws σ H) (hb : bs ≠ []) (hw : ws ≠ []) (hl : ws.length = bs.length + 1) (hl2 : ws.length ≤ 900)
    (hs : ((((ws.zip (bs ++ [true])).filter (·.2)).map (·.1)).map (·.length)).sum + (((ws.zip (bs ++ [true])).filter (·.2)).map (·.1)).length * ("" : Str).length ≤ 16777216)
    (h : ∀ H', Grow H0 H' → D.rt (.str (nameS ws (bs ++ [true]))) H') : tRet (tNm K fun σ => σ[0]? = some (some (.ref a))) D σ H := by
  obtain ⟨lw, w1, w2⟩ := s.w hw
  obtain ⟨lk, k1, k2⟩ := s.k hb
  refine ⟨⟨_, rfl⟩, ?_⟩
  refine ⟨.ref lw, w1, lk, _, k1, k2, s.e, by rw [List.length_map]; simp only [List.length_cons, List.length_nil]; omega, fun p p2 hp hp2 => ?_⟩
  have w3 : upd (upd H p (.lst [V.bl true])) p2 (.lst (bs.map V.bl ++ [V.bl true])) lw = some (.lst (ws.map .str)) := upd_old hp2 (upd_old hp w2)
  have k3 : upd (upd H p (.lst [V.bl true])) p2 (.lst (bs.map V.bl ++ [V.bl true])) p2 = some (.lst ((bs ++ [true]).map .bl)) := by rw [upd_same, List.map_append]; rfl
  refine ⟨lw, p2, _, _, rfl, .inl (.inl w3), .inl (.inl k3), ?_⟩
  refine lz_go (K := K) (σ := σ) (Q := fun y H2 => ∃ a p, ∃ ys : List Str, V.str "" = V.str a ∧ [y] = [V.ref p] ∧ (SqL K H2 p (ys.map V.str) ∨ SqT K H2 p (ys.map V.str)) ∧ (ys.map (·.length)).sum + ys.length * a.length ≤ 16777216 ∧ D.rt (V.str (Txt.join a ys)) H2) (by rw [s.len]; exact Nat.le_refl _) w3 k3 (by rw [List.length_append]; simp only [List.length_cons, List.length_nil]; omega) (by omega) fun Dd H' gr hD => ?_
  refine ⟨"", Dd, _, rfl, rfl, .inl (.inl (.inl hD)), hs, h H' fun b o hb => gr b o ((s.gr.upd hp).upd hp2 b o hb)⟩
end
end Rf

set_option maxRecDepth 100000
set_option maxHeartbeats 4000000
/-! Rt1: _law_name_of and _law_try: what they are told, what they make of it. -/
namespace Rf
open PySem PySem.Spec PyProof.Rows L2
variable [TN]
def nmN : List Str := ["_law_e", "_law_kinds_met", "_law_words", "_law_word", "_law_good"]
def nmW : List Str := nmC ++ (["+"] : List Str)
def nmG : List Str := nmC ++ (["isinstance", "ValueError", "zip"] : List Str)
/-- what the head tells of the classes -/
structure NmK (K : PySem.W.Frag) (mg : Str → Option Value) : Prop where
  cl : ∀ c ∈ nmC, mg c = some (.ref (He.ga K c))
  hE : mg "HouseError" = some (.ref (He.ga K "HouseError"))
  isI : mg "isinstance" = none
  zip : mg "zip" = none
  vE : mg "ValueError" = none
def nmOf (x : Str) : Str := nameS nmW ((nmC.map fun c => decide (c = x)) ++ [true])
/-- what is known of a class that is raised -/
structure ExcF (K : PySem.W.Frag) (x : Str) : Prop where
  C : ExcC K (He.ga K x)
  kV : PySem.W.kitOne K (.ref (He.ga K x)) (.type "ValueError") = some true
  kit : ∀ c ∈ nmC, PySem.W.kitOne K (.ref (He.ga K x)) (.ref (He.ga K c)) = some (decide (c = x))
  e1 : PySem.W.exmOne K (.ref (He.ga K x)) (.ref (He.ga K "TooMany")) = some false
  e2 : PySem.W.exmOne K (.ref (He.ga K x)) (.ref (He.ga K "Wrong")) = some false
  e3 : PySem.W.exmOne K (.ref (He.ga K x)) (.ref (He.ga K "HouseError")) = some true
  len : (((((nmW.zip ((nmC.map fun c => decide (c = x)) ++ [true])).filter (·.2)).map (·.1)).map (·.length)).sum + (((nmW.zip ((nmC.map fun c => decide (c = x)) ++ [true])).filter (·.2)).map (·.1)).length * ("" : Str).length ≤ 16777216)
def spNm (K : PySem.W.Frag) : (Addr × Obj) → Sp := fun p vs H Q _ => vs = [.ref p.1] ∧ ∃ x : Str, ExcF K x ∧ Zc (.ref (He.ga K x)) none p.2 ∧ (∃ vs, p.2.data = .fields vs) ∧ ∀ H', Grow H H' → Q (.str (nmOf x)) H'
def tyN : List Str := ["_law_door", "_law_found", "_law_e"]
def tyG : List Str := ["TooMany", "Wrong", "HouseError", "_law_name_of"]
/-- what _law_try makes of what it gets -/
def TTry (K : PySem.W.Frag) : TTx := fun tl H Q => tl (fun cls dd H' => ∃ x : Str, ExcF K x ∧ cls = .ref (He.ga K x) ∧ dd = none ∧ ∀ H2, Grow H' H2 → Q (.str (nmOf x)) H2) H (fun v H1 => ∀ T, H1 T = none → Q (.ref T) (upd H1 T (.tup [.str "told", v])))
theorem takesF {X : Cx} : L2N.Takes X (fun _ _ _ _ => False) := fun _ _ x => by
  obtain ⟨_, _, _, _, _, _, _, _, _, _, _, _, _, _, _, _, z⟩ := x
  exact z.elim
def tsN (K : PySem.W.Frag) : TSx := fun a cls d D σ H => ∃ x : Str, ExcF K x ∧ cls = .ref (He.ga K x) ∧ d = none ∧ σ[2]? = some (some (.ref a)) ∧ ∀ H', Grow H H' → D.nx (σ.set 1 (some (.str (nmOf x)))) H'

theorem nmOf_eq : ∀ x ∈ nmC, nmOf x = x ++ "+" := by
  have h : nmC.all (fun x => decide (nmOf x = x ++ "+")) = true := by decide +kernel
  exact fun x hx => of_decide_eq_true (List.all_eq_true.mp h x hx)
theorem pick_le (l : List (Str × Bool)) : (((l.filter (·.2)).map (·.1)).map (·.length)).sum ≤ ((l.map (·.1)).map (·.length)).sum := by
  induction l with
  | nil => exact Nat.le_refl _
  | cons p l ih =>
    obtain ⟨w, b⟩ := p
    cases b with
    | false => simp only [List.filter_cons, List.map_cons, List.sum_cons]; simp; simp at ih; omega
    | true => simp only [List.filter_cons, List.map_cons, List.sum_cons]; simp; simp at ih; omega
theorem excC_of {K : PySem.W.Frag} {D : Addr} (h : excCB K D = true) : ExcC K D := by
  unfold excCB at h
  simp only [Bool.and_eq_true, decide_eq_true_eq] at h
  obtain ⟨h1, h2, h3, h4, h5, h6, h7, h8⟩ := h
  exact ⟨h1, h2, h3, h4, h5, h6, h7, h8⟩
/-- of a class that is raised, by looking -/
theorem excF_of {K : PySem.W.Frag} {x : Str} (h : excFB K x = true) : ExcF K x := by
  unfold excFB at h
  simp only [Bool.and_eq_true, decide_eq_true_eq] at h
  obtain ⟨h1, h2, h3, h4, h5, h6⟩ := h
  refine ⟨excC_of h1, h2, fun c hc => of_decide_eq_true (List.all_eq_true.mp h3 c hc), h4, h5, h6, ?_⟩
  have a1 := pick_le (nmW.zip ((nmC.map fun c => decide (c = x)) ++ [true]))
  have e : (nmW.zip ((nmC.map fun c => decide (c = x)) ++ [true])).map (·.1) = nmW := by
    rw [List.map_fst_zip]
    rw [List.length_append, List.length_map]
    decide
  rw [e] at a1
  have a2 : ((nmW.map (·.length)).sum : Nat) ≤ 1000 := by decide +kernel
  have a3 : (("" : Str).length : Nat) = 0 := by decide
  rw [a3, Nat.mul_zero, Nat.add_zero]
  omega
theorem triT_of {K : PySem.W.Frag} {exs : List Str} {cf : Nat → Str} {G : Gam} (hex : ∀ x ∈ exs, x ∈ nmC ∧ ExcF K x) (hG : G.tr = trX exs) : TriT K (caX K exs) cf G (TTry K) := by
  intro tl H Q mono h
  refine mono _ _ _ _ ?_ h
  rintro cls dd H' ⟨x, s, ⟨hc, hf⟩, htr, hq⟩
  rw [hG] at htr
  obtain ⟨j, fld⟩ := x
  cases fld with
  | some d => cases htr
  | none =>
    obtain ⟨n, hn, rfl⟩ := Option.map_eq_some_iff.mp (show ((exs[j]?).map fun x : Str => x ++ ("+" : Str)) = some s from htr)
    have hm := List.mem_of_getElem? hn
    refine ⟨n, (hex n hm).2, ?_, hf, fun H2 g => ?_⟩
    · rw [hc]
      show Value.ref (caX K exs j) = _
      unfold caX
      rw [List.getD_eq_getElem?_getD, hn]
      rfl
    · rw [nmOf_eq n (hex n hm).1]
      exact hq H2 g
theorem st_le {P : Program} {w : World} {K : PySem.W.Frag} {mg : Str → Option Value} {base : Heap} {ca : Nat → Addr} {cf : Nat → Str} {k : Nat} {Is : List FnI} {fs : List FnV} (h : AllSt P w K mg base ca cf k Is fs) {j : Nat} {I : FnI} (hI : Is[j]? = some I) : St P w K mg base ca cf I (fs.getD j fun _ _ => none) k := h.get hI
theorem code_law {K : PySem.W.Frag} {x : Str} {cdv : Value} (h : CodeAt K (He.ga K x) cdv) : cdv = .ref (He.cT K (x, none)).1 := by
  obtain ⟨⟨oc, od, osl, fd, lk, rfl⟩, q, hq⟩ := h
  obtain ⟨c, e⟩ := He.codeIn_ref hq
  have lk2 : K.lookup (He.fAd K (x, none)) = some ⟨oc, od, .func fd, osl⟩ := lk
  rw [e]
  exact congrArg Value.ref (He.codeOf_eq lk2 e).symm
theorem AllSt.mono {P : Program} {w : World} {K : PySem.W.Frag} {mg : Str → Option Value} {base : Heap} {ca : Nat → Addr} {cf : Nat → Str} {k k' : Nat} (hk : k ≤ k') : ∀ {Is : List FnI} {fs : List FnV}, AllSt P w K mg base ca cf k Is fs → AllSt P w K mg base ca cf k' Is fs
  | _, _, .nil => .nil
  | _, _, .cons a b c => .cons a (Nat.le_trans b hk) (AllSt.mono hk c)
theorem fnOk_mkT {P : Program} {w : World} {K : PySem.W.Frag} {mg : Str → Option Value} {base : Heap} {cf : Nat → Str} {fa : List He.Fa} {fn : List He.DefD} {exs : List Str} (c : HdF K mg fa fn exs) {x : Str} {st : Stmt} {ps : List Str} {C : Cfg} {fl : List FnV} {gl : List D} {pk : List PK} {body : List Sm} {k : Nat} {fd : FuncData} (pre : Hp → Prop)
    (F : FunD K x x (defArgs st) (defBody st) (defScope st) [] [] (He.ga K x) fd)
    (Sc : FnScope C.N ps (defScope st)) (hpk : (decide (ps.length = pk.length) && (pkB C pk && (celIx pk 0).all fun i => decide (i ∈ C.pcl))) = true) (hchk : chkSs C (defScope st) body (defBody st) = true)
    (hf : AllSt P w K mg base (caX K exs) cf (k + 1) C.fns fl) (hgc : AllG K mg C.gcs gl) (hbl : (C.bl.all fun n => fa.any (isFree · n)) = true) (hex : C.exs = exs)
    (htri : ∀ cdv, CodeAt K (He.ga K x) cdv → ∀ (A : Around) (outer : List Env) (s : Shared) (H : Hp) (E : XK) (S : AS) (vs : List V), pre H → Room (k + 3) (A.deeper (envOfC x (defScope st) s.heap.objs.size (He.ga K x) cdv)) →
      TriOk (cxOf (L2N.CX P w) P w K mg base C.N x (defScope st) (He.ga K x) cdv A outer s H E) C (mkGt exs fl gl) (Ac.of K C (caX K exs) cf pk S H vs E)) :
    FnOk P w K mg base (L2N.CX P w) (k + 4) (He.ga K x) fd ps (fun vs H Q E => pre H ∧ spF K (caX K exs) cf pk C.ret (denF C (mkGt exs fl gl) pk body) vs H Q E) := by
  rw [Bool.and_eq_true, Bool.and_eq_true, decide_eq_true_eq] at hpk
  obtain ⟨h1, h2, h3⟩ := hpk
  have e := env_mk c (hf.mono (k' := k + 3) (by omega)) hgc hbl hex
  have e' : Env1 P w K mg base C (mkGt exs fl gl) (caX K exs) cf (k + 3) := ⟨e.fns, e.bl, e.gcs, e.exs⟩
  exact def_okT pre F Sc h1 h2 e' (fun i hi => of_decide_eq_true (List.all_eq_true.mp h3 i hi)) hchk fun _ => htri
theorem tab_nil {H : Hp} {P : Addr} (h : H P = some (.tbl #[])) : TabQ H P := ⟨#[], h, True.intro, fun pos cv hc => by
  have z : codeAmong pos [] = some cv := hc
  simp [codeAmong] at z⟩
theorem nmK_of {K : PySem.W.Frag} {mg : Str → Option Value} {fa : List He.Fa} {fn : List He.DefD} {exs : List Str} (c : HdF K mg fa fn exs) (h1 : (nmC.all fun n => fa.any (isGlo · n)) = true) (h2 : fa.any (isGlo · "HouseError") = true) (h3 : fa.any (isFree · "isinstance") = true) (h4 : fa.any (isFree · "zip") = true) (h5 : fa.any (isFree · "ValueError") = true) : NmK K mg where
  cl := fun n hn => c.glo n (List.all_eq_true.mp h1 n hn)
  hE := c.glo _ h2
  isI := c.free _ h3
  zip := c.free _ h4
  vE := c.free _ h5
end Rf

set_option maxRecDepth 100000
set_option maxHeartbeats 0
namespace K02
open PySem PySem.Spec PyProof.Rows L2 Rf
def i_made : FnI := ⟨"made", [.val, .val], true⟩
def i_less : FnI := ⟨"less", [.val, .val], true⟩
def i_in_order : FnI := ⟨"in_order", [.bor], true⟩
def i_is_whole : FnI := ⟨"is_whole", [.val], true⟩
def i_is_from : FnI := ⟨"is_from", [.val, .val, .val], true⟩
def i_is_name : FnI := ⟨"is_name", [.val], true⟩
def i_is_mark : FnI := ⟨"is_mark", [.val], true⟩
def i_marks_of : FnI := ⟨"marks_of", [.val], true⟩
def i_are_slots : FnI := ⟨"are_slots", [.val], true⟩
def i_are_colours : FnI := ⟨"are_colours", [.val, .val], true⟩
def i_are_takes : FnI := ⟨"are_takes", [.val, .val], true⟩
def i_is_shelf : FnI := ⟨"is_shelf", [.val, .val], true⟩
def i_all_marks : FnI := ⟨"all_marks", [.val], true⟩
def i_is_house : FnI := ⟨"is_house", [.val], true⟩
def i_need_house : FnI := ⟨"need_house", [.val], true⟩
def i_need_name : FnI := ⟨"need_name", [.val, .val], true⟩
def i_need_mark : FnI := ⟨"need_mark", [.val, .val], true⟩
def i_all_stretches : FnI := ⟨"all_stretches", [.val], true⟩
def i_stretches : FnI := ⟨"stretches", [.val], true⟩
def i_gap_at : FnI := ⟨"gap_at", [.val, .val], true⟩
def i_slots_of : FnI := ⟨"slots_of", [.val, .val], false⟩
def i_gap : FnI := ⟨"gap", [.val, .val, .val], true⟩
def i_xlaw_deck : FnI := ⟨"_law_deck", [.val, .val], true⟩
def i_xlaw_pick : FnI := ⟨"_law_pick", [.cel, .val], false⟩
def i_xlaw_one : FnI := ⟨"_law_one", [.cel, .val], false⟩
def i_xlaw_sort : FnI := ⟨"_law_sort", [.bor], true⟩
def i_xlaw_same : FnI := ⟨"_law_same", [.bor, .val], true⟩
def i_xlaw_made : FnI := ⟨"_law_made", [.val, .val], true⟩
def i_xlaw_less : FnI := ⟨"_law_less", [.val, .val], true⟩
def i_xlaw_rising : FnI := ⟨"_law_rising", [.val], true⟩
def i_xlaw_some : FnI := ⟨"_law_some", [.cel, .val, .val, .val], true⟩
def i_xlaw_filled : FnI := ⟨"_law_filled", [.cel, .val, .bor], true⟩
def i_xlaw_house : FnI := ⟨"_law_house", [.cel, .val, .val, .val], true⟩
def i_xlaw_between : FnI := ⟨"_law_between", [.cel, .val, .val], true⟩
def i_xlaw_marks : FnI := ⟨"_law_marks", [.val], true⟩
def i_xlaw_parted : FnI := ⟨"_law_parted", [.val], true⟩
def i_xlaw_gap : FnI := ⟨"_law_gap", [.val, .val], true⟩
def i_xlaw_w : FnI := ⟨"_law_w", [.val], false⟩
def i_xlaw_inside : FnI := ⟨"_law_inside", [.val], true⟩
def i_xlaw_sums : FnI := ⟨"_law_sums", [.val], true⟩
def i_xlaw_sure : FnI := ⟨"_law_sure", [.val], true⟩
def i_xlaw_due : FnI := ⟨"_law_due", [.val, .val], true⟩
def i_law : FnI := ⟨"law", [.val], true⟩
def b_made : List Sm :=
  [.par [(2, false, (.bi .abs (.cons (.v 0) .nil))), (3, false, (.v 1))],
   .wh (.cmp .Gt (.v 3) (.c (.int 0))) [.par [(2, false, (.v 3)), (3, false, (.bin .Mod (.v 2) (.v 3)))]],
   .ret [] (.tup (.cons (.bin .FloorDiv (.v 0) (.v 2)) (.cons (.bin .FloorDiv (.v 1) (.v 2)) .nil)))]
def c_made : Cfg :=
  ⟨["top", "bottom", "one", "other"], [.val, .val, .val, .val],
   [], ["abs"], [], true, [], exs, false⟩
noncomputable def F_made : FnV := denF c_made (mkG [] []) [.val, .val] b_made
def b_less : List Sm :=
  [.ret [] (.cmp .Lt (.bin .Mult (.ix (.v 0) (.c (.int 0))) (.ix (.v 1) (.c (.int 1)))) (.bin .Mult (.ix (.v 1) (.c (.int 0))) (.ix (.v 0) (.c (.int 1)))))]
def c_less : Cfg :=
  ⟨["one", "other"], [.val, .val],
   [], [], [], true, [], exs, false⟩
noncomputable def F_less : FnV := denF c_less (mkG [] []) [.val, .val] b_less
def b_in_order : List Sm :=
  [.setO 1 (.lst .nil),
   .fr (.nm 2) (.sq (.v 0)) [.ins 1 (.bi .len (.cons (.comp (.v 3) (.nm 3) (.sq (.v 1)) (.cons (.call 0 (.cons (.v 3) (.cons (.v 2) .nil)) []) .nil) [3]) .nil)) (.v 2)],
   .retO 1]
def c_in_order : Cfg :=
  ⟨["parts", "found", "part", "one"], [.bor, .own, .val, .val],
   [i_less], ["len"], [], true, [], exs, false⟩
noncomputable def F_in_order : FnV := denF c_in_order (mkG [F_less] []) [.bor] b_in_order
def b_is_whole : List Sm :=
  [.ret [] (.and (.isi (.v 0) .int) (.not (.isi (.v 0) .bool)))]
def c_is_whole : Cfg :=
  ⟨["thing"], [.val],
   [], ["bool", "int", "isinstance"], [], true, [], exs, false⟩
noncomputable def F_is_whole : FnV := denF c_is_whole (mkG [] []) [.val] b_is_whole
def b_is_from : List Sm :=
  [.ret [] (.and (.call 0 (.cons (.v 0) .nil) []) (.chn .LtE .LtE (.v 1) (.v 0) (.v 2)))]
def c_is_from : Cfg :=
  ⟨["thing", "low", "high"], [.val, .val, .val],
   [i_is_whole], [], [], true, [], exs, false⟩
noncomputable def F_is_from : FnV := denF c_is_from (mkG [F_is_whole] []) [.val, .val, .val] b_is_from
def b_is_name : List Sm :=
  [.ret [] (.and (.isi (.v 0) .str) (.and (.chn .LtE .LtE (.c (.int 1)) (.bi .len (.cons (.v 0) .nil)) (.c (.int 8))) (.bi .all (.cons (.comp (.cmp .In (.v 1) (.g 0)) (.nm 1) (.sq (.v 0)) .nil [1]) .nil))))]
def c_is_name : Cfg :=
  ⟨["thing", "sign"], [.val, .val],
   [], ["all", "isinstance", "len", "str"], ["LETTERS"], true, [], exs, false⟩
noncomputable def F_is_name : FnV := denF c_is_name (mkG [] [.str "abcdefghijklmnopqrstuvwxyz"]) [.val] b_is_name
def b_is_mark : List Sm :=
  [.ifs (.or (.not (.isi (.v 0) .tuple)) (.or (.cmp .NotEq (.bi .len (.cons (.v 0) .nil)) (.c (.int 2))) (.or (.not (.call 0 (.cons (.ix (.v 0) (.c (.int 0))) .nil) [])) (.not (.call 0 (.cons (.ix (.v 0) (.c (.int 1))) .nil) []))))) [.ret [] (.c (.bl false))] [],
   .ret [] (.and (.chn3 .Lt .Lt .Lt (.c (.int 0)) (.ix (.v 0) (.c (.int 0))) (.ix (.v 0) (.c (.int 1))) (.g 0)) (.cmp .Eq (.call 1 (.cons (.ix (.v 0) (.c (.int 0))) (.cons (.ix (.v 0) (.c (.int 1))) .nil)) []) (.v 0)))]
def c_is_mark : Cfg :=
  ⟨["thing"], [.val],
   [i_is_whole, i_made], ["isinstance", "len", "tuple"], ["MOST_FIGURES"], true, [], exs, false⟩
noncomputable def F_is_mark : FnV := denF c_is_mark (mkG [F_is_whole, F_made] [.int 10000000000000000000000000000000000000000]) [.val] b_is_mark
def b_marks_of : List Sm :=
  [.ret [] (.comp (.v 1) (.nm 1) (.sq (.v 0)) (.cons (.cmp .IsNot (.v 1) (.c (.non))) .nil) [1])]
def c_marks_of : Cfg :=
  ⟨["slots", "one"], [.val, .val],
   [], [], [], true, [], exs, false⟩
noncomputable def F_marks_of : FnV := denF c_marks_of (mkG [] []) [.val] b_marks_of
def b_are_slots : List Sm :=
  [.ifs (.or (.not (.isi (.v 0) .tuple)) (.not (.chn .LtE .LtE (.c (.int 1)) (.bi .len (.cons (.v 0) .nil)) (.g 0)))) [.ret [] (.c (.bl false))] [],
   .set 1 (.call 0 (.cons (.v 0) .nil) []),
   .ifs (.not (.bi .all (.cons (.comp (.call 1 (.cons (.v 2) .nil) []) (.nm 2) (.sq (.v 1)) .nil [2]) .nil))) [.ret [] (.c (.bl false))] [],
   .ret [] (.bi .all (.cons (.comp (.call 2 (.cons (.v 2) (.cons (.v 3) .nil)) []) (.tp [(.nm 2), (.nm 3)]) (.zp (.v 1) (.sl (.v 1) (.so (.c (.int 1))) .no)) .nil [2, 3]) .nil))]
def c_are_slots : Cfg :=
  ⟨["thing", "marks", "one", "other"], [.val, .val, .val, .val],
   [i_marks_of, i_is_mark, i_less], ["all", "isinstance", "len", "tuple", "zip"], ["MOST_SLOTS"], true, [], exs, false⟩
noncomputable def F_are_slots : FnV := denF c_are_slots (mkG [F_marks_of, F_is_mark, F_less] [.int 20]) [.val] b_are_slots
def b_are_colours : List Sm :=
  [.ifs (.or (.not (.isi (.v 0) .tuple)) (.or (.not (.chn .LtE .LtE (.c (.int 1)) (.bi .len (.cons (.v 0) .nil)) (.v 1))) (.not (.bi .all (.cons (.comp (.call 0 (.cons (.v 2) .nil) []) (.nm 2) (.sq (.v 0)) .nil [2]) .nil))))) [.ret [] (.c (.bl false))] [],
   .ret [] (.bi .all (.cons (.comp (.cmp .Lt (.v 2) (.v 3)) (.tp [(.nm 2), (.nm 3)]) (.zp (.v 0) (.sl (.v 0) (.so (.c (.int 1))) .no)) .nil [2, 3]) .nil))]
def c_are_colours : Cfg :=
  ⟨["thing", "most", "one", "other"], [.val, .val, .val, .val],
   [i_is_name], ["all", "isinstance", "len", "tuple", "zip"], [], true, [], exs, false⟩
noncomputable def F_are_colours : FnV := denF c_are_colours (mkG [F_is_name] []) [.val, .val] b_are_colours
def b_are_takes : List Sm :=
  [.ret [] (.and (.call 0 (.cons (.v 1) (.cons (.g 0) .nil)) []) (.bi .all (.cons (.comp (.cmp .In (.v 2) (.v 0)) (.nm 2) (.sq (.v 1)) .nil [2]) .nil)))]
def c_are_takes : Cfg :=
  ⟨["colours", "thing", "one"], [.val, .val, .val],
   [i_are_colours], ["all"], ["MOST_COLOURS"], true, [], exs, false⟩
noncomputable def F_are_takes : FnV := denF c_are_takes (mkG [F_are_colours] [.int 4]) [.val, .val] b_are_takes
def b_is_shelf : List Sm :=
  [.ifs (.or (.not (.isi (.v 1) .tuple)) (.or (.cmp .NotEq (.bi .len (.cons (.v 1) .nil)) (.c (.int 3))) (.not (.call 0 (.cons (.ix (.v 1) (.c (.int 0))) .nil) [])))) [.ret [] (.c (.bl false))] [],
   .ret [] (.and (.call 1 (.cons (.v 0) (.cons (.ix (.v 1) (.c (.int 1))) .nil)) []) (.call 2 (.cons (.ix (.v 1) (.c (.int 2))) .nil) []))]
def c_is_shelf : Cfg :=
  ⟨["colours", "thing"], [.val, .val],
   [i_is_name, i_are_takes, i_are_slots], ["isinstance", "len", "tuple"], [], true, [], exs, false⟩
noncomputable def F_is_shelf : FnV := denF c_is_shelf (mkG [F_is_name, F_are_takes, F_are_slots] []) [.val, .val] b_is_shelf
def b_all_marks : List Sm :=
  [.setO 1 (.lst .nil),
   .fr (.tp [(.nm 2), (.nm 3), (.nm 4)]) (.sq (.ix (.v 0) (.c (.int 0)))) [.ext 1 (.call 0 (.cons (.v 4) .nil) [])],
   .ret [] (.call 1 (.cons (.v 1) .nil) [])]
def c_all_marks : Cfg :=
  ⟨["house", "found", "name", "takes", "slots"], [.val, .own, .val, .val, .val],
   [i_marks_of, i_in_order], [], [], true, [], exs, false⟩
noncomputable def F_all_marks : FnV := denF c_all_marks (mkG [F_marks_of, F_in_order] []) [.val] b_all_marks
def b_is_house : List Sm :=
  [.ifs (.or (.not (.isi (.v 0) .tuple)) (.or (.cmp .NotEq (.bi .len (.cons (.v 0) .nil)) (.c (.int 3))) (.not (.isi (.ix (.v 0) (.c (.int 0))) .tuple)))) [.ret [] (.c (.bl false))] [],
   .unp (.tp [(.nm 2), (.nm 3), (.nm 4)]) (.v 0),
   .ifs (.or (.not (.call 0 (.cons (.v 4) (.cons (.g 0) .nil)) [])) (.or (.not (.call 1 (.cons (.v 3) (.cons (.c (.int 0)) (.cons (.g 1) .nil))) [])) (.cmp .Gt (.bi .len (.cons (.v 2) .nil)) (.g 2)))) [.ret [] (.c (.bl false))] [],
   .ifs (.not (.bi .all (.cons (.comp (.call 2 (.cons (.v 4) (.cons (.v 5) .nil)) []) (.nm 5) (.sq (.v 2)) .nil [5]) .nil))) [.ret [] (.c (.bl false))] [],
   .ifs (.not (.bi .all (.cons (.comp (.cmp .Lt (.ix (.v 5) (.c (.int 0))) (.ix (.v 6) (.c (.int 0)))) (.tp [(.nm 5), (.nm 6)]) (.zp (.v 2) (.sl (.v 2) (.so (.c (.int 1))) .no)) .nil [5, 6]) .nil))) [.ret [] (.c (.bl false))] [],
   .set 1 (.call 3 (.cons (.v 0) .nil) []),
   .ret [] (.cmp .Eq (.lset (.v 1)) (.bi .len (.cons (.v 1) .nil)))]
def c_is_house : Cfg :=
  ⟨["thing", "marks", "shelves", "passes", "colours", "one", "other"], [.val, .val, .val, .val, .val, .val, .val],
   [i_are_colours, i_is_from, i_is_shelf, i_all_marks], ["all", "isinstance", "len", "set", "tuple", "zip"], ["MOST_COLOURS", "MOST_PASSES", "MOST_SHELVES"], true, [], exs, false⟩
noncomputable def F_is_house : FnV := denF c_is_house (mkG [F_are_colours, F_is_from, F_is_shelf, F_all_marks] [.int 4, .int 20, .int 5]) [.val] b_is_house
def b_need_house : List Sm :=
  [.ifs (.not (.call 0 (.cons (.v 0) .nil) [])) [.rse 0] []]
def c_need_house : Cfg :=
  ⟨["house"], [.val],
   [i_is_house], [], [], true, [], exs, false⟩
noncomputable def F_need_house : FnV := denF c_need_house (mkG [F_is_house] []) [.val] b_need_house
def b_need_name : List Sm :=
  [.ifs (.or (.not (.isi (.v 1) .str)) (.cmp .NotIn (.v 1) (.comp (.ix (.v 2) (.c (.int 0))) (.nm 2) (.sq (.ix (.v 0) (.c (.int 0)))) .nil [2]))) [.rse 1] []]
def c_need_name : Cfg :=
  ⟨["house", "name", "one"], [.val, .val, .val],
   [], ["isinstance", "str"], [], true, [], exs, false⟩
noncomputable def F_need_name : FnV := denF c_need_name (mkG [] []) [.val, .val] b_need_name
def b_need_mark : List Sm :=
  [.ifs (.or (.not (.call 0 (.cons (.v 1) .nil) [])) (.cmp .In (.v 1) (.call 1 (.cons (.v 0) .nil) []))) [.rse 2] []]
def c_need_mark : Cfg :=
  ⟨["house", "mark"], [.val, .val],
   [i_is_mark, i_all_marks], [], [], true, [], exs, false⟩
noncomputable def F_need_mark : FnV := denF c_need_mark (mkG [F_is_mark, F_all_marks] []) [.val, .val] b_need_mark
def b_all_stretches : List Sm :=
  [.set 1 (.bin .Add (.bin .Add (.lst (.cons (.tup (.cons (.c (.int 0)) (.cons (.c (.int 1)) .nil))) .nil)) (.call 0 (.cons (.v 0) .nil) [])) (.lst (.cons (.tup (.cons (.c (.int 1)) (.cons (.c (.int 1)) .nil))) .nil))),
   .ret [] (.lzip (.v 1) (.sl (.v 1) (.so (.c (.int 1))) .no))]
def c_all_stretches : Cfg :=
  ⟨["house", "ends"], [.val, .val],
   [i_all_marks], ["list", "zip"], [], true, [], exs, false⟩
noncomputable def F_all_stretches : FnV := denF c_all_stretches (mkG [F_all_marks] []) [.val] b_all_stretches
def b_stretches : List Sm :=
  [.ex (.call 0 (.cons (.v 0) .nil) []),
   .ret [] (.call 1 (.cons (.v 0) .nil) [])]
def c_stretches : Cfg :=
  ⟨["house"], [.val],
   [i_need_house, i_all_stretches], [], [], true, [], exs, false⟩
noncomputable def F_stretches : FnV := denF c_stretches (mkG [F_need_house, F_all_stretches] []) [.val] b_stretches
def b_gap_at : List Sm :=
  [.set 2 (.c (.int 0)),
   .fr (.tp [(.nm 3), (.nm 4)]) (.en (.v 0)) [.ifs (.cmp .IsNot (.v 4) (.c (.non))) [.ifs (.call 0 (.cons (.v 1) (.cons (.v 4) .nil)) []) [.ret [] (.tup (.cons (.v 2) (.cons (.bin .Sub (.v 3) (.v 2)) .nil)))] [], .set 2 (.bin .Add (.v 3) (.c (.int 1)))] []],
   .ret [] (.tup (.cons (.v 2) (.cons (.bin .Sub (.bi .len (.cons (.v 0) .nil)) (.v 2)) .nil)))]
def c_gap_at : Cfg :=
  ⟨["slots", "low", "first", "slot", "mark"], [.val, .val, .val, .val, .val],
   [i_less], ["enumerate", "len"], [], true, [], exs, false⟩
noncomputable def F_gap_at : FnV := denF c_gap_at (mkG [F_less] []) [.val, .val] b_gap_at
def b_slots_of : List Sm :=
  [.ret [] (.ix (.comp (.v 4) (.tp [(.nm 2), (.nm 3), (.nm 4)]) (.sq (.ix (.v 0) (.c (.int 0)))) (.cons (.cmp .Eq (.v 2) (.v 1)) .nil) [2, 3, 4]) (.c (.int 0)))]
def c_slots_of : Cfg :=
  ⟨["house", "name", "here", "takes", "slots"], [.val, .val, .val, .val, .val],
   [], [], [], false, [], exs, false⟩
noncomputable def F_slots_of : FnV := denF c_slots_of (mkG [] []) [.val, .val] b_slots_of
def b_gap : List Sm :=
  [.ex (.call 0 (.cons (.v 0) .nil) []),
   .ex (.call 1 (.cons (.v 0) (.cons (.v 1) .nil)) []),
   .ex (.call 2 (.cons (.v 0) (.cons (.v 2) .nil)) []),
   .ret [] (.call 3 (.cons (.call 4 (.cons (.v 0) (.cons (.v 1) .nil)) []) (.cons (.v 2) .nil)) [])]
def c_gap : Cfg :=
  ⟨["house", "name", "mark"], [.val, .val, .val],
   [i_need_house, i_need_name, i_need_mark, i_gap_at, i_slots_of], [], [], true, [], exs, false⟩
noncomputable def F_gap : FnV := denF c_gap (mkG [F_need_house, F_need_name, F_need_mark, F_gap_at, F_slots_of] []) [.val, .val, .val] b_gap
def b_xlaw_deck : List Sm :=
  [.ifs (.cmp .GtE (.v 0) (.bin .Pow (.c (.int 10)) (.c (.int 18)))) [.ret [] (.lst (.cons (.bin .Sub (.v 0) (.bin .Pow (.c (.int 10)) (.c (.int 18)))) (.cons (.bin .Mod (.v 0) (.c (.int 2147483579))) (.cons (.v 1) .nil))))] [],
   .ret [] (.lst (.cons (.c (.int 0)) (.cons (.bin .Mod (.v 0) (.c (.int 2147483579))) (.cons (.v 1) .nil))))]
def c_xlaw_deck : Cfg :=
  ⟨["_law_cell", "_law_turn"], [.val, .val],
   [], [], [], true, [], exs, false⟩
noncomputable def F_xlaw_deck : FnV := denF c_xlaw_deck (mkG [] []) [.val, .val] b_xlaw_deck
def b_xlaw_pick : List Sm :=
  [.ifs (.cmp .Gt (.cix 0 (.c (.int 0))) (.c (.int 1))) [.set 3 (.bin .Mod (.cix 0 (.c (.int 0))) (.v 1)), .stx 0 (.c (.int 0)) (.bin .FloorDiv (.cix 0 (.c (.int 0))) (.v 1)), .ret [] (.v 3)] [],
   .stx 0 (.c (.int 2)) (.bin .Add (.cix 0 (.c (.int 2))) (.c (.int 1))),
   .set 2 (.bin .Mod (.bin .Pow (.bin .Add (.cix 0 (.c (.int 1))) (.bin .Mult (.c (.int 15485867)) (.cix 0 (.c (.int 2))))) (.c (.int 5))) (.c (.int 2147483647))),
   .set 3 (.bin .FloorDiv (.bin .Mod (.bin .Pow (.bin .Add (.v 2) (.bin .Mult (.c (.int 7919)) (.cix 0 (.c (.int 2))))) (.c (.int 3))) (.c (.int 2147483629))) (.c (.int 32))),
   .ifs (.cmp .Gt (.v 1) (.c (.int 1000000))) [.ret [] (.bin .Mod (.bin .Add (.bin .Mult (.v 3) (.c (.int 2147483563))) (.v 2)) (.v 1))] [],
   .ret [] (.bin .Mod (.v 3) (.v 1))]
def c_xlaw_pick : Cfg :=
  ⟨["_law_deck_here", "_law_limit", "_law_number", "_law_found"], [.cel, .val, .val, .val],
   [], [], [], false, [0], exs, false⟩
noncomputable def F_xlaw_pick : FnV := denF c_xlaw_pick (mkG [] []) [.cel, .val] b_xlaw_pick
def b_xlaw_one : List Sm :=
  [.ret [] (.ix (.v 1) (.call 0 (.cel 0 (.cons (.bi .len (.cons (.v 1) .nil)) .nil)) [0]))]
def c_xlaw_one : Cfg :=
  ⟨["_law_deck_here", "_law_some_here"], [.cel, .val],
   [i_xlaw_pick], ["len"], [], false, [0], exs, false⟩
noncomputable def F_xlaw_one : FnV := denF c_xlaw_one (mkG [F_xlaw_pick] []) [.cel, .val] b_xlaw_one
def b_xlaw_sort : List Sm :=
  [.ifs (.isi (.v 0) .bool) [.ret [] (.c (.int 1))] [],
   .ifs (.isi (.v 0) .int) [.ret [] (.c (.int 2))] [],
   .ifs (.isi (.v 0) .str) [.ret [] (.c (.int 3))] [],
   .ifs (.isi (.v 0) .list) [.ret [] (.c (.int 4))] [],
   .ret [] (.ite (.isi (.v 0) .tuple) (.c (.int 5)) (.c (.int 6)))]
def c_xlaw_sort : Cfg :=
  ⟨["_law_thing"], [.bor],
   [], ["bool", "int", "isinstance", "list", "str", "tuple"], [], true, [], exs, false⟩
noncomputable def F_xlaw_sort : FnV := denF c_xlaw_sort (mkG [] []) [.bor] b_xlaw_sort
def b_xlaw_same : List Sm :=
  [.ifs (.cmp .NotEq (.call 0 (.cons (.v 0) .nil) []) (.call 0 (.cons (.v 1) .nil) [])) [.ret [] (.c (.bl false))] [],
   .ifs (.and (.cmp .Gt (.call 0 (.cons (.v 0) .nil) []) (.c (.int 3))) (.cmp .Lt (.call 0 (.cons (.v 0) .nil) []) (.c (.int 6)))) [.ifs (.cmp .NotEq (.bi .len (.cons (.v 0) .nil)) (.bi .len (.cons (.v 1) .nil))) [.ret [] (.c (.bl false))] [], .ret [] (.cmp .Eq (.comp (.v 2) (.tp [(.nm 2), (.nm 3)]) (.en (.v 0)) (.cons (.not (.call 1 (.cons (.v 3) (.cons (.ix (.v 1) (.v 2)) .nil)) [])) .nil) [2, 3]) (.lst .nil))] [],
   .ret [] (.cmp .Eq (.v 0) (.v 1))]
def c_xlaw_same : Cfg :=
  ⟨["_law_told", "_law_due_here", "_law_k", "_law_part"], [.bor, .val, .val, .val],
   [i_xlaw_sort, i_xlaw_same], ["enumerate", "len"], [], true, [], exs, false⟩
noncomputable def F_xlaw_samen : Nat → FnV
  | 0 => fun _ _ => none
  | n + 1 => denF c_xlaw_same (mkG [F_xlaw_sort, F_xlaw_samen n] []) [.bor, .val] b_xlaw_same
noncomputable def F_xlaw_same : FnV := F_xlaw_samen 14
def b_xlaw_made : List Sm :=
  [.par [(2, false, (.bi .abs (.cons (.v 0) .nil))), (3, false, (.v 1))],
   .wh (.cmp .Gt (.v 3) (.c (.int 0))) [.par [(2, false, (.v 3)), (3, false, (.bin .Mod (.v 2) (.v 3)))]],
   .ret [] (.tup (.cons (.bin .FloorDiv (.v 0) (.v 2)) (.cons (.bin .FloorDiv (.v 1) (.v 2)) .nil)))]
def c_xlaw_made : Cfg :=
  ⟨["_law_top", "_law_bottom", "_law_one_here", "_law_other"], [.val, .val, .val, .val],
   [], ["abs"], [], true, [], exs, false⟩
noncomputable def F_xlaw_made : FnV := denF c_xlaw_made (mkG [] []) [.val, .val] b_xlaw_made
def b_xlaw_less : List Sm :=
  [.ret [] (.cmp .Lt (.bin .Mult (.ix (.v 0) (.c (.int 0))) (.ix (.v 1) (.c (.int 1)))) (.bin .Mult (.ix (.v 1) (.c (.int 0))) (.ix (.v 0) (.c (.int 1)))))]
def c_xlaw_less : Cfg :=
  ⟨["_law_one_here", "_law_other"], [.val, .val],
   [], [], [], true, [], exs, false⟩
noncomputable def F_xlaw_less : FnV := denF c_xlaw_less (mkG [] []) [.val, .val] b_xlaw_less
def b_xlaw_rising : List Sm :=
  [.setO 1 (.lst .nil),
   .fr (.nm 2) (.sq (.v 0)) [.ins 1 (.bi .len (.cons (.comp (.v 3) (.nm 3) (.sq (.v 1)) (.cons (.call 0 (.cons (.v 3) (.cons (.v 2) .nil)) []) .nil) [3]) .nil)) (.v 2)],
   .retO 1]
def c_xlaw_rising : Cfg :=
  ⟨["_law_parts", "_law_found", "_law_part", "_law_one_here"], [.val, .own, .val, .val],
   [i_xlaw_less], ["len"], [], true, [], exs, false⟩
noncomputable def F_xlaw_rising : FnV := denF c_xlaw_rising (mkG [F_xlaw_less] []) [.val] b_xlaw_rising
def b_xlaw_some : List Sm :=
  [.setO 4 .dic,
   .fr (.nm 5) (.r1 (.bin .Mult (.c (.int 2)) (.v 3))) [.ifs (.cmp .Lt (.bi .len (.cons (.v 4) .nil)) (.v 3)) [.stx 4 (.bin .Add (.v 1) (.call 0 (.cel 0 (.cons (.bin .Add (.bin .Sub (.v 2) (.v 1)) (.c (.int 1))) .nil)) [0])) (.c (.bl true))] []],
   .ret [] (.bi .sorted (.cons (.v 4) .nil))]
def c_xlaw_some : Cfg :=
  ⟨["_law_deck_here", "_law_low", "_law_high", "_law_many", "_law_found", "_law_turn"], [.cel, .val, .val, .val, .own, .val],
   [i_xlaw_pick], ["len", "range", "sorted"], [], true, [0], exs, false⟩
noncomputable def F_xlaw_some : FnV := denF c_xlaw_some (mkG [F_xlaw_pick] []) [.cel, .val, .val, .val] b_xlaw_some
def b_xlaw_filled : List Sm :=
  [.set 3 (.lst .nil),
   .fr (.nm 4) (.r1 (.c (.int 3))) [.ifs (.cmp .Lt (.bi .len (.cons (.v 3) .nil)) (.bi .len (.cons (.v 2) .nil))) [.set 3 (.call 0 (.cel 0 (.cons (.c (.int 0)) (.cons (.bin .Sub (.v 1) (.c (.int 1))) (.cons (.bi .len (.cons (.v 2) .nil)) .nil)))) [0])] []],
   .setO 5 (.bin .Mult (.lst (.cons (.c (.non)) .nil)) (.v 1)),
   .fr (.tp [(.nm 6), (.nm 7)]) (.zp (.v 3) (.v 2)) [.stx 5 (.v 6) (.v 7)],
   .ret [] (.bi .tuple (.cons (.v 5) .nil))]
def c_xlaw_filled : Cfg :=
  ⟨["_law_deck_here", "_law_size", "_law_marks_here", "_law_spots", "_law_turn", "_law_found", "_law_spot", "_law_mark"], [.cel, .val, .bor, .val, .val, .own, .val, .val],
   [i_xlaw_some], ["len", "range", "tuple", "zip"], [], true, [0], exs, false⟩
noncomputable def F_xlaw_filled : FnV := denF c_xlaw_filled (mkG [F_xlaw_some] []) [.cel, .val, .bor] b_xlaw_filled
def b_xlaw_house : List Sm :=
  [.set 4 (.sl (.lst (.cons (.c (.str "blue")) (.cons (.c (.str "gold")) (.cons (.c (.str "red")) (.cons (.c (.str "teal")) .nil))))) .no (.so (.bin .Add (.c (.int 1)) (.call 0 (.cel 0 (.cons (.call 1 (.cel 0 (.cons (.lst (.cons (.c (.int 1)) (.cons (.c (.int 2)) (.cons (.c (.int 4)) .nil)))) .nil)) [0]) .nil)) [0])))),
   .set 5 (.call 1 (.cel 0 (.cons (.lst (.cons (.c (.int 97)) (.cons (.c (.int 97)) (.cons (.bin .Pow (.c (.int 10)) (.c (.int 18))) .nil)))) .nil)) [0]),
   .setC 6 (.comp (.call 2 (.cons (.v 13) (.cons (.v 5) .nil)) []) (.nm 13) (.sq (.call 3 (.cel 0 (.cons (.c (.int 1)) (.cons (.bin .Sub (.v 5) (.c (.int 1))) (.cons (.call 0 (.cel 0 (.cons (.bin .Add (.v 3) (.c (.int 1))) .nil)) [0]) .nil)))) [0])) .nil [13]),
   .par [(7, true, (.lst .nil)), (8, false, (.sl (.lst (.cons (.c (.str "ash")) (.cons (.c (.str "bay")) (.cons (.c (.str "cot")) (.cons (.c (.str "den")) (.cons (.c (.str "elm")) .nil)))))) .no (.so (.call 0 (.cel 0 (.cons (.bin .Add (.v 1) (.c (.int 1))) .nil)) [0]))))],
   .fr (.tp [(.nm 9), (.nm 10)]) (.en (.v 8)) [.set 11 (.comp (.v 16) (.nm 16) (.sq (.v 4)) (.cons (.cmp .Gt (.call 0 (.cel 0 (.cons (.c (.int 3)) .nil)) [0]) (.c (.int 0))) .nil) [16]), .set 11 (.ite (.cmp .NotEq (.v 11) (.lst .nil)) (.v 11) (.sl (.v 4) .no (.so (.c (.int 1))))), .par [(14, false, (.bin .Add (.c (.int 1)) (.call 0 (.cel 0 (.cons (.v 2) .nil)) [0]))), (15, true, (.lst .nil))], .fr (.nm 12) (.sq (.bi .list (.cons (.v 6) .nil))) [.ifs (.and (.cmp .Eq (.call 0 (.cel 0 (.cons (.bin .Sub (.bi .len (.cons (.v 8) .nil)) (.v 9)) .nil)) [0]) (.c (.int 0))) (.cmp .Lt (.bi .len (.cons (.v 15) .nil)) (.v 14))) [.app 15 (.v 12), .rem 6 (.v 12)] []], .app 7 (.tup (.cons (.v 10) (.cons (.bi .tuple (.cons (.v 11) .nil)) (.cons (.call 4 (.cel 0 (.cons (.v 14) (.cons (.v 15) .nil))) [0]) .nil))))],
   .ret [] (.tup (.cons (.bi .tuple (.cons (.v 7) .nil)) (.cons (.call 1 (.cel 0 (.cons (.lst (.cons (.c (.int 0)) (.cons (.c (.int 0)) (.cons (.c (.int 1)) (.cons (.c (.int 3)) .nil))))) .nil)) [0]) (.cons (.bi .tuple (.cons (.v 4) .nil)) .nil))))]
def c_xlaw_house : Cfg :=
  ⟨["_law_deck_here", "_law_most", "_law_wide", "_law_marked", "_law_colours_so", "_law_whole_so", "_law_dealt_so", "_law_shelves_so", "_law_names_so", "_law_at", "_law_here", "_law_takes_so", "_law_mark", "_law_top", "_law_size", "_law_own", "_law_colour"], [.cel, .val, .val, .val, .val, .val, .own, .own, .val, .val, .val, .val, .val, .val, .val, .own, .val],
   [i_xlaw_pick, i_xlaw_one, i_xlaw_made, i_xlaw_some, i_xlaw_filled], ["enumerate", "len", "list", "tuple"], [], true, [0], exs, false⟩
noncomputable def F_xlaw_house : FnV := denF c_xlaw_house (mkG [F_xlaw_pick, F_xlaw_one, F_xlaw_made, F_xlaw_some, F_xlaw_filled] []) [.cel, .val, .val, .val] b_xlaw_house
def b_xlaw_between : List Sm :=
  [.par [(3, false, (.bin .Add (.c (.int 1)) (.call 0 (.cel 0 (.cons (.c (.int 3)) .nil)) [0]))), (4, false, (.bin .Add (.c (.int 1)) (.call 0 (.cel 0 (.cons (.c (.int 3)) .nil)) [0])))],
   .ret [] (.call 1 (.cons (.bin .Add (.bin .Mult (.v 3) (.ix (.v 1) (.c (.int 0)))) (.bin .Mult (.v 4) (.ix (.v 2) (.c (.int 0))))) (.cons (.bin .Add (.bin .Mult (.v 3) (.ix (.v 1) (.c (.int 1)))) (.bin .Mult (.v 4) (.ix (.v 2) (.c (.int 1))))) .nil)) [])]
def c_xlaw_between : Cfg :=
  ⟨["_law_deck_here", "_law_low", "_law_high", "_law_one_here", "_law_other"], [.cel, .val, .val, .val, .val],
   [i_xlaw_pick, i_xlaw_made], [], [], true, [0], exs, false⟩
noncomputable def F_xlaw_between : FnV := denF c_xlaw_between (mkG [F_xlaw_pick, F_xlaw_made] []) [.cel, .val, .val] b_xlaw_between
def b_xlaw_marks : List Sm :=
  [.set 1 (.lst .nil),
   .fr (.tp [(.nm 2), (.nm 3), (.nm 4)]) (.sq (.ix (.v 0) (.c (.int 0)))) [.set 1 (.bin .Add (.v 1) (.comp (.v 5) (.nm 5) (.sq (.v 4)) (.cons (.cmp .IsNot (.v 5) (.c (.non))) .nil) [5]))],
   .ret [] (.call 0 (.cons (.v 1) .nil) [])]
def c_xlaw_marks : Cfg :=
  ⟨["_law_house_here", "_law_found", "_law_here", "_law_takes_so", "_law_slots_so", "_law_mark"], [.val, .val, .val, .val, .val, .val],
   [i_xlaw_rising], [], [], true, [], exs, false⟩
noncomputable def F_xlaw_marks : FnV := denF c_xlaw_marks (mkG [F_xlaw_rising] []) [.val] b_xlaw_marks
def b_xlaw_parted : List Sm :=
  [.set 1 (.bin .Add (.bin .Add (.lst (.cons (.tup (.cons (.c (.int 0)) (.cons (.c (.int 1)) .nil))) .nil)) (.call 0 (.cons (.v 0) .nil) [])) (.lst (.cons (.tup (.cons (.c (.int 1)) (.cons (.c (.int 1)) .nil))) .nil))),
   .ret [] (.comp (.tup (.cons (.ix (.v 1) (.v 2)) (.cons (.ix (.v 1) (.bin .Add (.v 2) (.c (.int 1)))) .nil))) (.nm 2) (.r1 (.bin .Sub (.bi .len (.cons (.v 1) .nil)) (.c (.int 1)))) .nil [2])]
def c_xlaw_parted : Cfg :=
  ⟨["_law_house_here", "_law_ends", "_law_k"], [.val, .val, .val],
   [i_xlaw_marks], ["len", "range"], [], true, [], exs, false⟩
noncomputable def F_xlaw_parted : FnV := denF c_xlaw_parted (mkG [F_xlaw_marks] []) [.val] b_xlaw_parted
def b_xlaw_gap : List Sm :=
  [.setO 2 (.lst .nil),
   .fr (.tp [(.nm 3), (.nm 4)]) (.en (.v 0)) [.set 5 (.comp (.v 7) (.nm 7) (.sq (.sl (.v 0) .no (.so (.v 3)))) (.cons (.and (.cmp .IsNot (.v 7) (.c (.non))) (.not (.call 0 (.cons (.v 7) (.cons (.v 1) .nil)) []))) .nil) [7]), .set 6 (.comp (.v 7) (.nm 7) (.sq (.sl (.v 0) (.so (.v 3)) .no)) (.cons (.and (.cmp .IsNot (.v 7) (.c (.non))) (.not (.call 0 (.cons (.v 1) (.cons (.v 7) .nil)) []))) .nil) [7]), .ifs (.and (.cmp .Is (.v 4) (.c (.non))) (.and (.cmp .Eq (.v 5) (.lst .nil)) (.cmp .Eq (.v 6) (.lst .nil)))) [.app 2 (.v 3)] []],
   .retO 2]
def c_xlaw_gap : Cfg :=
  ⟨["_law_slots_so", "_law_mark", "_law_found", "_law_slot", "_law_here", "_law_ahead", "_law_later", "_law_one_here"], [.val, .val, .own, .val, .val, .val, .val, .val],
   [i_xlaw_less], ["enumerate"], [], true, [], exs, false⟩
noncomputable def F_xlaw_gap : FnV := denF c_xlaw_gap (mkG [F_xlaw_less] []) [.val, .val] b_xlaw_gap
def b_xlaw_w : List Sm :=
  [.set 1 (.c (.int 0)),
   .wh (.cmp .Gt (.v 0) (.c (.int 0))) [.par [(1, false, (.bin .Add (.v 1) (.c (.int 1)))), (0, false, (.bin .FloorDiv (.bin .Sub (.v 0) (.c (.int 1))) (.c (.int 2))))]],
   .ret [] (.v 1)]
def c_xlaw_w : Cfg :=
  ⟨["_law_free", "_law_found"], [.val, .val],
   [], [], [], false, [], exs, false⟩
noncomputable def F_xlaw_w : FnV := denF c_xlaw_w (mkG [] []) [.val] b_xlaw_w
def b_xlaw_inside : List Sm :=
  [.ret [] (.call 0 (.cons (.bin .Add (.ix (.ix (.v 0) (.c (.int 0))) (.c (.int 0))) (.ix (.ix (.v 0) (.c (.int 1))) (.c (.int 0)))) (.cons (.bin .Add (.ix (.ix (.v 0) (.c (.int 0))) (.c (.int 1))) (.ix (.ix (.v 0) (.c (.int 1))) (.c (.int 1)))) .nil)) [])]
def c_xlaw_inside : Cfg :=
  ⟨["_law_stretch"], [.val],
   [i_xlaw_made], [], [], true, [], exs, false⟩
noncomputable def F_xlaw_inside : FnV := denF c_xlaw_inside (mkG [F_xlaw_made] []) [.val] b_xlaw_inside
def b_xlaw_sums : List Sm :=
  [.setO 1 (.lst .nil),
   .fr (.nm 2) (.sq (.ix (.v 0) (.c (.int 2)))) [.fr (.nm 3) (.sq (.call 0 (.cons (.v 0) .nil) [])) [.par [(4, false, (.call 1 (.cons (.v 3) .nil) [])), (5, false, (.ix (.v 0) (.c (.int 1))))], .fr (.tp [(.nm 6), (.nm 7), (.nm 8)]) (.sq (.ix (.v 0) (.c (.int 0)))) [.set 5 (.bin .Add (.v 5) (.ite (.cmp .In (.v 2) (.v 7)) (.call 2 (.cons (.bi .len (.cons (.call 3 (.cons (.v 8) (.cons (.v 4) .nil)) []) .nil)) .nil) []) (.c (.int 0))))], .app 1 (.tup (.cons (.v 2) (.cons (.v 3) (.cons (.v 5) .nil))))]],
   .retO 1]
def c_xlaw_sums : Cfg :=
  ⟨["_law_house_here", "_law_found", "_law_colour", "_law_stretch", "_law_mark", "_law_total", "_law_here", "_law_takes_so", "_law_slots_so"], [.val, .own, .val, .val, .val, .val, .val, .val, .val],
   [i_xlaw_parted, i_xlaw_inside, i_xlaw_w, i_xlaw_gap], ["len"], [], true, [], exs, false⟩
noncomputable def F_xlaw_sums : FnV := denF c_xlaw_sums (mkG [F_xlaw_parted, F_xlaw_inside, F_xlaw_w, F_xlaw_gap] []) [.val] b_xlaw_sums
def b_xlaw_sure : List Sm :=
  [.ret [] (.bi .min (.cons (.comp (.ix (.v 1) (.c (.int 2))) (.nm 1) (.sq (.call 0 (.cons (.v 0) .nil) [])) .nil [1]) .nil))]
def c_xlaw_sure : Cfg :=
  ⟨["_law_house_here", "_law_row"], [.val, .val],
   [i_xlaw_sums], ["min"], [], true, [], exs, false⟩
noncomputable def F_xlaw_sure : FnV := denF c_xlaw_sure (mkG [F_xlaw_sums] []) [.val] b_xlaw_sure
def b_xlaw_due : List Sm :=
  [.set 2 (.c (.int 0)),
   .fr (.tp [(.nm 3), (.nm 4)]) (.en (.v 0)) [.ifs (.and (.cmp .IsNot (.v 4) (.c (.non))) (.call 0 (.cons (.v 4) (.cons (.v 1) .nil)) [])) [.set 2 (.bin .Add (.v 3) (.c (.int 1)))] []],
   .ret [] (.tup (.cons (.v 2) (.cons (.bi .len (.cons (.call 1 (.cons (.v 0) (.cons (.v 1) .nil)) []) .nil)) .nil)))]
def c_xlaw_due : Cfg :=
  ⟨["_law_slots_so", "_law_mark", "_law_first", "_law_slot", "_law_here"], [.val, .val, .val, .val, .val],
   [i_xlaw_less, i_xlaw_gap], ["enumerate", "len"], [], true, [], exs, false⟩
noncomputable def F_xlaw_due : FnV := denF c_xlaw_due (mkG [F_xlaw_less, F_xlaw_gap] []) [.val, .val] b_xlaw_due
def b_law : List Sm :=
  [.fr (.nm 1) (.sq (.sl (.bin .Add (.lst (.cons (.c (.int 0)) .nil)) (.v 0)) .no (.so (.c (.int 8))))) [.setO 2 (.call 0 (.cons (.v 1) (.cons (.c (.int 2)) .nil)) []), .set 3 (.call 1 (.cel 2 (.cons (.c (.int 5)) (.cons (.call 2 (.cel 2 (.cons (.lst (.cons (.c (.int 4)) (.cons (.c (.int 20)) .nil))) .nil)) [2]) (.cons (.c (.int 20)) .nil)))) [2]), .setO 4 (.call 3 (.cons (.v 3) .nil) []), .ifs (.not (.call 4 (.cons (.v 4) (.cons (.call 5 (.cons (.v 3) .nil) []) .nil)) [])) [.ret [] (.c (.bl false))] [], .fr (.tp [(.nm 6), (.nm 7)]) (.sq (.bi .list (.cons (.v 4) .nil))) [.set 8 (.call 6 (.cel 2 (.cons (.v 6) (.cons (.v 7) .nil))) [2]), .fr (.tp [(.nm 9), (.nm 10), (.nm 11)]) (.sq (.ix (.v 3) (.c (.int 0)))) [.ifs (.not (.call 4 (.cons (.call 8 (.cons (.v 3) (.cons (.v 9) (.cons (.v 8) .nil))) []) (.cons (.call 7 (.cons (.v 11) (.cons (.v 8) .nil)) []) .nil)) [])) [.ret [] (.c (.bl false))] []]], .app 4 (.c (.non)), .ifs (.cmp .NotEq (.call 3 (.cons (.v 3) .nil) []) (.sl (.v 4) .no (.so (.neg (.c (.int 1)))))) [.ret [] (.c (.bl false))] [], .fr (.tp [(.nm 9), (.nm 10), (.nm 11)]) (.sq (.ix (.v 3) (.c (.int 0)))) [.fr (.nm 5) (.sq (.bin .Add (.lst (.cons (.c (.non)) (.cons (.tup (.cons (.c (.int 0)) (.cons (.c (.int 1)) .nil))) (.cons (.tup (.cons (.c (.int 1)) (.cons (.c (.int 1)) .nil))) (.cons (.tup (.cons (.c (.int 2)) (.cons (.c (.int 4)) .nil))) (.cons (.lst (.cons (.c (.int 1)) (.cons (.c (.int 2)) .nil))) (.cons (.tup (.cons (.c (.bl true)) (.cons (.c (.int 2)) .nil))) (.cons (.c (.int 7)) .nil)))))))) (.sl (.call 9 (.cons (.v 3) .nil) []) .no (.so (.c (.int 2)))))) [.ifs (.cmp .NotEq (.tri (.call 8 (.cons (.v 3) (.cons (.v 9) (.cons (.v 5) .nil))) [])) (.c (.str "NoMark+"))) [.ret [] (.c (.bl false))] []]], .fr (.nm 5) (.sq (.lst (.cons (.c (.non)) (.cons (.c (.str "")) (.cons (.c (.str "zed")) (.cons (.c (.int 7)) (.cons (.tup (.cons (.c (.str "ash")) .nil)) .nil))))))) [.ifs (.cmp .NotEq (.tri (.call 8 (.cons (.v 3) (.cons (.v 5) (.cons (.c (.non)) .nil))) [])) (.c (.str "NoName+"))) [.ret [] (.c (.bl false))] []], .ifs (.cmp .NotEq (.tri (.call 8 (.cons (.c (.non)) (.cons (.c (.non)) (.cons (.c (.non)) .nil))) [])) (.c (.str "NoHouse+"))) [.ret [] (.c (.bl false))] []],
   .ret [] (.c (.bl true))]
def c_law : Cfg :=
  ⟨["_law_script", "_law_cell", "_law_deck_here", "_law_house_here", "_law_told", "_law_odd", "_law_low", "_law_high", "_law_mark", "_law_here", "_law_takes_so", "_law_slots_so"], [.val, .val, .cel, .val, .own, .val, .val, .val, .val, .val, .val, .val],
   [i_xlaw_deck, i_xlaw_house, i_xlaw_one, i_stretches, i_xlaw_same, i_xlaw_parted, i_xlaw_between, i_xlaw_due, i_gap, i_xlaw_marks], ["list"], [], true, [], exs, true⟩
noncomputable def F_law : FnV := denF c_law (mkGt exs [F_xlaw_deck, F_xlaw_house, F_xlaw_one, F_stretches, F_xlaw_same, F_xlaw_parted, F_xlaw_between, F_xlaw_due, F_gap, F_xlaw_marks] []) [.val] b_law
end K02

set_option maxRecDepth 100000
set_option maxHeartbeats 4000000
/-! EA: what the program's defs give: fractions, marks, order. -/
namespace K02
open PySem PySem.Spec PyProof.Rows L2 Rf
theorem gcd_turn {x y : Int} (hx : 0 ≤ x) (hy : 0 ≤ y) : Int.gcd y (x % y) = Int.gcd x y := by
  obtain ⟨m, rfl⟩ := Int.eq_ofNat_of_zero_le hx
  obtain ⟨n, rfl⟩ := Int.eq_ofNat_of_zero_le hy
  rw [← Int.natCast_emod]
  show Nat.gcd n (m % n) = Nat.gcd m n
  rw [Nat.gcd_comm n, ← Nat.gcd_rec, Nat.gcd_comm]
theorem made_wh (G : Gam) (a b : D) : ∀ (n : Nat) (x y : Int), 0 ≤ x → 0 ≤ y → y.toNat ≤ n →
    whD G (.cmp .Gt (.v 3) (.c (.int 0))) [.par [(2, false, (.v 3)), (3, false, (.bin .Mod (.v 2) (.v 3)))]] [some a, some b, some (.int x), some (.int y)] = some (.ok .nx, [some a, some b, some (.int (Int.gcd x y)), some (.int 0)])
  | 0, x, y, hx, hy, hn => by
    have : y = 0 := by omega
    subst this
    rw [whD_turn]
    have e : ((x.natAbs : Nat) : Int) = x := by omega
    simp [e]
  | n + 1, x, y, hx, hy, hn => by
    rw [whD_turn]
    by_cases h : 0 < y
    · have ih := made_wh G a b n y (x % y) hy (Int.emod_nonneg _ (by omega)) (by have := Int.emod_lt_of_pos x h; omega)
      rw [gcd_turn hx hy] at ih
      simpa [h] using ih
    · have : y = 0 := by omega
      subst this
      have e : ((x.natAbs : Nat) : Int) = x := by omega
      simp [e]
theorem e_made {a b : Int} (hb : 0 < b) (hl : Sz b) : F_made [.int a, .int b] [] = some (.ok (dM (red a b)), []) := by
  have w := made_wh (mkG [] []) (.int a) (.int b) b.toNat (a.natAbs : Int) b (by omega) (by omega) (Nat.le_refl _)
  have hg : Int.gcd (a.natAbs : Int) b = Int.gcd a b := by simp [Int.gcd]
  rw [hg] at w
  have gp : 0 < (Int.gcd a b : Int) := gcd_pos hb
  have gl : (Int.gcd a b).log2 < 9000 := by
    have h1 : Int.gcd a b ≤ b.natAbs := by have := Int.gcd_le_right a hb; omega
    have h2 : Int.gcd a b < 2 ^ 250 := Nat.lt_of_le_of_lt h1 hl
    have := log_lt (by decide) h2
    omega
  have hb0 : b ≠ 0 := by omega
  simp [F_made, denF, b_made, c_made, biD, List.replicate, w, hb0, gl, dM, red]
theorem e_xmade {a b : Int} (hb : 0 < b) (hl : Sz b) : F_xlaw_made [.int a, .int b] [] = some (.ok (dM (red a b)), []) := e_made hb hl
theorem e_less {a b : M} (ha : SzM a) (hb : SzM b) : F_less [dM a, dM b] [] = some (.ok (.bl (lt a b)), []) := by
  simp [F_less, denF, b_less, c_less, dM, mul_ok ha.1 hb.2, mul_ok hb.1 ha.2, lt]
theorem e_xless {a b : M} (ha : SzM a) (hb : SzM b) : F_xlaw_less [dM a, dM b] [] = some (.ok (.bl (lt a b)), []) := e_less ha hb
theorem ins_len (l : List M) (m : M) : (l.filter (lt · m)).length ≤ l.length := List.length_filter_le _ _
theorem foldl_ins_len : ∀ (l acc : List M), (l.foldl insM acc).length = acc.length + l.length
  | [], acc => rfl
  | m :: l, acc => by
    rw [List.foldl_cons, foldl_ins_len l]
    have := (insM_perm acc m).length_eq
    simp only [List.length_cons] at *
    omega
theorem e_in_order {l : List M} (h : ∀ m ∈ l, SzM m) (hl : l.length ≤ 1000) : F_in_order [.lst (l.map dM)] [] = some (.ok (.lst ((ordM l).map dM)), []) := by
  have go : ∀ (l : List M) (acc : List M) (x y : Option D), (∀ m ∈ l, SzM m) → (∀ m ∈ acc, SzM m) → acc.length + l.length ≤ 1000 → ∀ a : D, ∃ x' y', frD (mkG [F_less] []) (.nm 2) [.ins 1 (.bi .len (.cons (.comp (.v 3) (.nm 3) (.sq (.v 1)) (.cons (.call 0 (.cons (.v 3) (.cons (.v 2) .nil)) []) .nil) [3]) .nil)) (.v 2)] (l.map dM) [some a, some (.lst (acc.map dM)), x, y] = some (.ok .nx, [some a, some (.lst ((l.foldl insM acc).map dM)), x', y']) := by
    intro l
    induction l with
    | nil => intro acc x y _ _ _ a; exact ⟨x, y, rfl⟩
    | cons m l ih =>
      intro acc x y h1 h2 h3 a
      have hm : SzM m := h1 m List.mem_cons_self
      have c := comp_eq (G := mkG [F_less] []) (elt := .v 3) (t := .nm 3) (it := .sq (.v 1)) (cs := .cons (.call 0 (.cons (.v 3) (.cons (.v 2) .nil)) []) .nil) (own := [3]) (enc := dM) (e := [some a, some (.lst (acc.map dM)), some (dM m), y]) (xs := acc)
        (fun q => [some a, some (.lst (acc.map dM)), some (dM m), some (dM q)]) (lt · m) dM (by simp) (fun q hq => by simp) (fun q hq => by simp [e_less (h2 q hq) hm]) (fun q hq _ => by simp) (fun q hq => by simp)
      have hk : (acc.filter (lt · m)).length ≤ acc.length := ins_len acc m
      simp only [List.length_cons] at h3
      obtain ⟨x', y', ih⟩ := ih (insM acc m) (some (dM m)) y (fun q hq => h1 q (List.mem_cons_of_mem _ hq)) (fun q hq => by
        rcases List.mem_cons.mp ((insM_perm acc m).mem_iff.mp hq) with rfl | hq
        · exact hm
        · exact h2 q hq) (by have := (insM_perm acc m).length_eq; simp only [List.length_cons] at this; omega) a
      refine ⟨x', y', ?_⟩
      rw [List.foldl_cons, ← ih, List.map_cons, f_turn]
      have ii : insD (.lst (acc.map dM)) (.int ((acc.filter (lt · m)).length : Nat)) (dM m) = some (.lst ((insM acc m).map dM)) := by
        rw [ins_l, if_pos (by rw [List.length_map, lim_num]; omega)]
        simp [insM, List.map_take, List.map_drop]
      simp [-d_comp, c, lstAt, ii]
  obtain ⟨x', y', w⟩ := go l [] none none h (fun _ z => nomatch z) (by simpa using hl) (.lst (l.map dM))
  rw [List.map_nil] at w
  simp [F_in_order, denF, b_in_order, c_in_order, List.replicate, w, ordM]
theorem e_xrising {l : List M} (h : ∀ m ∈ l, SzM m) (hl : l.length ≤ 1000) : F_xlaw_rising [.lst (l.map dM)] [] = some (.ok (.lst ((ordM l).map dM)), []) := e_in_order h hl
theorem mks_flt (sl : List (Option M)) : (sl.filter fun q => !isNon (dO q)).map dO = (mks sl).map dM := by
  induction sl with
  | nil => rfl
  | cons a sl ih => cases a <;> simp_all [mks]
theorem e_marks_of (sl : List (Option M)) : F_marks_of [.tup (sl.map dO)] [] = some (.ok (.lst ((mks sl).map dM)), []) := by
  have c := comp_eq (G := mkG [] []) (elt := .v 1) (t := .nm 1) (it := .sq (.v 0)) (cs := .cons (.cmp .IsNot (.v 1) (.c (.non))) .nil) (own := [1]) (enc := dO) (e := [some (.tup (sl.map dO)), none]) (xs := sl)
    (fun q => [some (.tup (sl.map dO)), some (dO q)]) (fun q => !isNon (dO q)) dO (by simp) (fun q hq => by simp) (fun q hq => by simp) (fun q hq _ => by simp) (fun q hq => by simp)
  simp [-d_comp, F_marks_of, denF, b_marks_of, c_marks_of, List.replicate, c, mks_flt]
theorem e_is_whole (i : Int) : F_is_whole [.int i] [] = some (.ok (.bl true), []) := by
  simp [F_is_whole, denF, b_is_whole, c_is_whole]
theorem e_is_from (i lo hi : Int) : F_is_from [.int i, .int lo, .int hi] [] = some (.ok (.bl (decide (lo ≤ i) && decide (i ≤ hi))), []) := by
  by_cases h : lo ≤ i <;> simp [F_is_from, denF, b_is_from, c_is_from, e_is_whole, h]
theorem red_self {m : M} (g : Int.gcd m.1 m.2 = 1) : red m.1 m.2 = m := by simp [red, g]
theorem e_is_mark {m : M} (h : OkM m) : F_is_mark [dM m] [] = some (.ok (.bl true), []) := by
  have h1 := e_made (a := m.1) (b := m.2) h.c h.sz.2
  rw [red_self h.g] at h1
  have p := h.p
  have q := h.q
  have d : m.2 < 10000000000000000000000000000000000000000 := by simpa using h.d
  have o : okEq (dM m) (dM m) = true := okEq_of (by simp) (by simp) (by simp)
  have e := eq_dM m m
  simp only [decide_true] at e
  unfold dM at h1 o e ⊢
  simp [F_is_mark, denF, b_is_mark, c_is_mark, e_is_whole, h1, p, q, d, o, e, -eq_tt]
end K02

set_option maxRecDepth 100000
set_option maxHeartbeats 4000000
/-! EB: what is a house; all marks; stretches; gaps. -/
namespace K02
open PySem PySem.Spec PyProof.Rows L2 Rf
/-- a house as the program takes it -/
structure Vk (h : Ho) : Prop extends Vd h where
  fcs : F_are_colours [.tup (h.cs.map .str), .int 4] [] = some (.ok (.bl true), [])
  fnm : ∀ s ∈ h.sh, F_is_name [.str s.nm] [] = some (.ok (.bl true), [])
  ftk : ∀ s ∈ h.sh, F_are_takes [.tup (h.cs.map .str), .tup (s.tk.map .str)] [] = some (.ok (.bl true), [])
theorem mks_le (sl : List (Option M)) : (mks sl).length ≤ sl.length := List.length_filterMap_le _ _
theorem e_are_slots {sl : List (Option M)} (h1 : 1 ≤ sl.length ∧ sl.length ≤ 20) (hm : ∀ m ∈ mks sl, OkM m) (ha : Asc (mks sl)) : F_are_slots [.tup (sl.map dO)] [] = some (.ok (.bl true), []) := by
  have c1 := comp_eq0 (G := mkG [F_marks_of, F_is_mark, F_less] [.int 20]) (elt := .call 1 (.cons (.v 2) .nil) []) (t := .nm 2) (it := .sq (.v 1)) (own := [2]) (enc := dM) (e := [some (.tup (sl.map dO)), some (.lst ((mks sl).map dM)), none, none]) (xs := mks sl)
    (fun q => [some (.tup (sl.map dO)), some (.lst ((mks sl).map dM)), some (dM q), none]) (fun _ => .bl true) (by simp) (fun q hq => by simp) (fun q hq => by simp [e_is_mark (hm q hq)]) (fun q hq => by simp)
  have c2 := comp_eq0 (G := mkG [F_marks_of, F_is_mark, F_less] [.int 20]) (elt := .call 2 (.cons (.v 2) (.cons (.v 3) .nil)) []) (t := .tp [(.nm 2), (.nm 3)]) (it := .zp (.v 1) (.sl (.v 1) (.so (.c (.int 1))) .no)) (own := [2, 3]) (enc := dP) (e := [some (.tup (sl.map dO)), some (.lst ((mks sl).map dM)), none, none]) (xs := (mks sl).zip ((mks sl).drop 1))
    (fun q => [some (.tup (sl.map dO)), some (.lst ((mks sl).map dM)), some (dM q.1), some (dM q.2)]) (fun q => .bl (lt q.1 q.2)) (by simp [-List.drop_one, zipF_M]) (fun q hq => by simp [dP]) (fun q hq => by
      obtain ⟨g1, g2⟩ := List.of_mem_zip (a := q.1) (b := q.2) hq
      simp [e_less (hm _ g1).sz (hm _ (List.mem_of_mem_drop g2)).sz]) (fun q hq => by simp)
  have a1 := all_m (mks sl) (fun _ => true)
  have a2 := all_m ((mks sl).zip ((mks sl).drop 1)) (fun q => lt q.1 q.2)
  rw [show (mks sl).all (fun _ => true) = true from List.all_eq_true.mpr fun _ _ => rfl] at a1
  rw [show ((mks sl).zip ((mks sl).drop 1)).all (fun q => lt q.1 q.2) = true from List.all_eq_true.mpr fun p hp => pw_zip ha p hp] at a2
  have l1 : (1 : Int) ≤ sl.length := by omega
  have l2 : (sl.length : Int) ≤ 20 := by omega
  simp only [F_are_slots, denF, b_are_slots, c_are_slots]
  simp [-d_comp, -List.drop_one, List.replicate, e_marks_of, c1, c2, a1, a2, l1, l2]
theorem e_is_shelf {h : Ho} (V : Vk h) {s : Sh} (hs : s ∈ h.sh) : F_is_shelf [.tup (h.cs.map .str), dSh s] [] = some (.ok (.bl true), []) := by
  have h1 := V.fnm s hs
  have h2 := V.ftk s hs
  have h3 := e_are_slots (V.s1 s hs) (V.mrk s hs) (V.asc s hs)
  simp [F_is_shelf, denF, b_is_shelf, c_is_shelf, dSh, h1, h2, h3]
theorem own_le {h : Ho} (V : Vd h) : (own h).length ≤ 63 := by have := V.few; omega
theorem e_all_marks {h : Ho} (V : Vd h) : F_all_marks [dH h] [] = some (.ok (.lst ((allM h).map dM)), []) := by
  have go : ∀ (l : List Sh) (acc : List M) (x y z : Option D), acc.length + (l.flatMap fun s => mks s.sl).length ≤ 1000 → ∀ a : D, ∃ x' y' z', frD (mkG [F_marks_of, F_in_order] []) (.tp [(.nm 2), (.nm 3), (.nm 4)]) [.ext 1 (.call 0 (.cons (.v 4) .nil) [])] (l.map dSh) [some a, some (.lst (acc.map dM)), x, y, z] = some (.ok .nx, [some a, some (.lst ((acc ++ l.flatMap fun s => mks s.sl).map dM)), x', y', z']) := by
    intro l
    induction l with
    | nil => intro acc x y z _ a; exact ⟨x, y, z, by simp⟩
    | cons s l ih =>
      intro acc x y z hl a
      rw [List.flatMap_cons, List.length_append] at hl
      obtain ⟨x', y', z', ih⟩ := ih (acc ++ mks s.sl) (some (.str s.nm)) (some (.tup (s.tk.map .str))) (some (.tup (s.sl.map dO))) (by rw [List.length_append]; omega) a
      refine ⟨x', y', z', ?_⟩
      rw [List.flatMap_cons, ← List.append_assoc, ← ih, List.map_cons, f_turn]
      have hle : acc.length + (mks s.sl).length ≤ LIM := by rw [lim_num]; omega
      simp [dSh, lstAt, e_marks_of, hle]
  obtain ⟨x', y', z', w⟩ := go h.sh [] none none none (by have := own_le V; unfold own at this; simp only [List.length_nil]; omega) (dH h)
  have e := e_in_order (l := own h) (fun m hm => by
    obtain ⟨s, hs, hm⟩ := own_mem.mp hm
    exact (V.mrk s hs m hm).sz) (by have := own_le V; omega)
  have w2 : (List.flatMap (fun s => mks s.sl) h.sh) = own h := rfl
  rw [List.nil_append, List.map_nil, w2] at w
  unfold dH at w ⊢
  simp [F_all_marks, denF, b_all_marks, c_all_marks, List.replicate, w, e, allM]
theorem e_is_house {h : Ho} (V : Vk h) : F_is_house [dH h] [] = some (.ok (.bl true), []) := by
  have cs := V.fcs
  have pf := e_is_from h.ps 0 20
  rw [decide_eq_true V.ps0, decide_eq_true V.ps1] at pf
  have am := e_all_marks V.toVd
  have ls := lset_M (l := allM h) (((ordM_perm (own h)).nodup_iff).mpr V.nd) (by rw [allM, ordM_len]; exact V.few)
  have n5 : ¬ (5 : Int) < h.sh.length := by have := V.n5; omega
  have c1 := comp_eq0 (G := mkG [F_are_colours, F_is_from, F_is_shelf, F_all_marks] [.int 4, .int 20, .int 5]) (elt := .call 2 (.cons (.v 4) (.cons (.v 5) .nil)) []) (t := .nm 5) (it := .sq (.v 2)) (own := [5]) (enc := dSh) (e := [some (dH h), none, some (.tup (h.sh.map dSh)), some (.int h.ps), some (.tup (h.cs.map .str)), none, none]) (xs := h.sh)
    (fun q => [some (dH h), none, some (.tup (h.sh.map dSh)), some (.int h.ps), some (.tup (h.cs.map .str)), some (dSh q), none]) (fun _ => .bl true) (by simp) (fun q hq => by simp) (fun q hq => by simp [e_is_shelf V hq]) (fun q hq => by simp)
  have c2 := comp_eq0 (G := mkG [F_are_colours, F_is_from, F_is_shelf, F_all_marks] [.int 4, .int 20, .int 5]) (elt := .cmp .Lt (.ix (.v 5) (.c (.int 0))) (.ix (.v 6) (.c (.int 0)))) (t := .tp [(.nm 5), (.nm 6)]) (it := .zp (.v 2) (.sl (.v 2) (.so (.c (.int 1))) .no)) (own := [5, 6]) (enc := fun p : Sh × Sh => .tup [dSh p.1, dSh p.2]) (e := [some (dH h), none, some (.tup (h.sh.map dSh)), some (.int h.ps), some (.tup (h.cs.map .str)), none, none]) (xs := h.sh.zip (h.sh.drop 1))
    (fun q => [some (dH h), none, some (.tup (h.sh.map dSh)), some (.int h.ps), some (.tup (h.cs.map .str)), some (dSh q.1), some (dSh q.2)]) (fun q => .bl (decide (q.1.nm.cps.toList < q.2.nm.cps.toList))) (by simp [-List.drop_one, zipF_map]) (fun q hq => by simp) (fun q hq => by simp [dSh, -Array.lt_toList]) (fun q hq => by simp)
  have a1 := all_m h.sh (fun _ => true)
  have a2 := all_m (h.sh.zip (h.sh.drop 1)) (fun q => decide (q.1.nm.cps.toList < q.2.nm.cps.toList))
  rw [show h.sh.all (fun _ => true) = true from List.all_eq_true.mpr fun _ _ => rfl] at a1
  rw [show (h.sh.zip (h.sh.drop 1)).all (fun q => decide (q.1.nm.cps.toList < q.2.nm.cps.toList)) = true from List.all_eq_true.mpr fun p hp => decide_eq_true (pw_zip V.nm p hp)] at a2
  unfold dH at am c1 c2 ⊢
  simp only [F_is_house, denF, b_is_house, c_is_house]
  simp [-d_comp, -List.drop_one, List.replicate, -Array.lt_toList, cs, pf, am, ls, n5, c1, c2, a1, a2]
theorem e_need_house {h : Ho} (V : Vk h) : F_need_house [dH h] [] = some (.ok .non, []) := by
  simp [F_need_house, denF, b_need_house, c_need_house, e_is_house V]
theorem in_strs {l : List Str} {c : Str} (hl : ∀ x ∈ l, PyData.strOk x = true) (hc : PyData.strOk c = true) : inD (.str c) (.tup (l.map .str)) = some (decide (c ∈ l)) :=
  in_tup (f := D.str) (fun a b => eq_ss a b) (fun y hy => hl y hy) hc (by simp)
theorem in_lstM {l : List M} {m : M} : inD (dM m) (.lst (l.map dM)) = some (decide (m ∈ l)) :=
  in_lst (f := dM) eq_dM (fun y hy => by simp) (by simp) (by simp)
theorem e_need_mark {h : Ho} (V : Vd h) {m : M} (hm : OkM m) (hn : m ∉ allM h) : F_need_mark [dH h, dM m] [] = some (.ok .non, []) := by
  have i := in_lstM (l := allM h) (m := m)
  rw [decide_eq_false hn] at i
  simp [F_need_mark, denF, b_need_mark, c_need_mark, e_all_marks V, e_is_mark hm, i]
theorem ends_map (h : Ho) : (D.tup [.int 0, .int 1] :: ((allM h).map dM ++ [.tup [.int 1, .int 1]])) = (ends h).map dM := by
  simp [ends, dM]
theorem e_all_stretches {h : Ho} (V : Vd h) : F_all_stretches [dH h] [] = some (.ok (.lst ((strt h).map dP)), []) := by
  have hl : (allM h).length ≤ 63 := by rw [allM, ordM_len]; exact own_le V
  have e := ends_map h
  have l1 : (allM h).length + 1 ≤ LIM := by rw [lim_num]; omega
  have l2 : (allM h).length + 1 + 1 ≤ LIM := by rw [lim_num]; omega
  have l3 : 1 + (allM h).length ≤ LIM := by rw [lim_num]; omega
  simp [-List.drop_one, F_all_stretches, denF, b_all_stretches, c_all_stretches, List.replicate, e_all_marks V, l1, l2, l3, e, zipF_M, strt]
theorem e_gap_at {sl : List (Option M)} {low : M} (hm : ∀ m ∈ mks sl, SzM m) (hlow : SzM low) : F_gap_at [.tup (sl.map dO), dM low] [] = some (.ok (.tup [.int (gapAt sl low).1, .int (gapAt sl low).2]), []) := by
  have go : ∀ (l : List (Option M)) (i f : Nat) (x y : Option D), (∀ m ∈ mks l, SzM m) → f ≤ i → ∀ a : D, ∃ e',
      (frD (mkG [F_less] []) (.tp [(.nm 3), (.nm 4)]) [.ifs (.cmp .IsNot (.v 4) (.c (.non))) [.ifs (.call 0 (.cons (.v 1) (.cons (.v 4) .nil)) []) [.ret [] (.tup (.cons (.v 2) (.cons (.bin .Sub (.v 3) (.v 2)) .nil)))] [], .set 2 (.bin .Add (.v 3) (.c (.int 1)))] []] ((l.zipIdx i).map fun p => .tup [.int p.2, dO p.1]) [some a, some (dM low), some (.int f), x, y] = some (.ok (.rt (.tup [.int (gapG (lt low) l i f).1, .int (gapG (lt low) l i f).2])), e')) ∨
      (∃ x' y', frD (mkG [F_less] []) (.tp [(.nm 3), (.nm 4)]) [.ifs (.cmp .IsNot (.v 4) (.c (.non))) [.ifs (.call 0 (.cons (.v 1) (.cons (.v 4) .nil)) []) [.ret [] (.tup (.cons (.v 2) (.cons (.bin .Sub (.v 3) (.v 2)) .nil)))] [], .set 2 (.bin .Add (.v 3) (.c (.int 1)))] []] ((l.zipIdx i).map fun p => .tup [.int p.2, dO p.1]) [some a, some (dM low), some (.int f), x, y] = some (.ok .nx, [some a, some (dM low), some (.int (gapG (lt low) l i f).1), x', y']) ∧ (gapG (lt low) l i f).1 + (gapG (lt low) l i f).2 = i + l.length) := by
    intro l
    induction l with
    | nil => intro i f x y _ hf a; exact ⟨[], .inr ⟨x, y, by simp [gapG], by simp [gapG]; omega⟩⟩
    | cons o l ih =>
      intro i f x y hm hf a
      rw [List.zipIdx_cons, List.map_cons, f_turn]
      cases o with
      | none =>
        obtain ⟨e', ih⟩ := ih (i + 1) f (some (.int i)) (some .non) hm (by omega) a
        refine ⟨e', ?_⟩
        rw [gapG]
        rcases ih with ih | ⟨x', y', ih, ih2⟩
        · refine .inl ?_
          rw [← ih]
          simp
        · refine .inr ⟨x', y', ?_, by rw [ih2, List.length_cons]; omega⟩
          rw [← ih]
          simp
      | some m =>
        have hmm : SzM m := hm m (by simp)
        rw [gapG]
        by_cases hlt : lt low m = true
        · refine ⟨[some a, some (dM low), some (.int f), some (.int i), some (dM m)], .inl ?_⟩
          rw [if_pos hlt]
          have e : ((i - f : Nat) : Int) = (i : Int) - f := by omega
          simp [e_less hlow hmm, hlt, e]
        · rw [if_neg hlt]
          obtain ⟨e', ih⟩ := ih (i + 1) (i + 1) (some (.int i)) (some (dM m)) (fun q hq => hm q (by simp [hq])) (Nat.le_refl _) a
          refine ⟨e', ?_⟩
          have e1 : ((i + 1 : Nat) : Int) = (i : Int) + 1 := by omega
          rcases ih with ih | ⟨x', y', ih, ih2⟩
          · refine .inl ?_
            rw [← ih]
            simp [e_less hlow hmm, hlt, e1]
          · refine .inr ⟨x', y', ?_, by rw [ih2, List.length_cons]; omega⟩
            rw [← ih]
            simp [e_less hlow hmm, hlt, e1]
  obtain ⟨e', w⟩ := go sl 0 0 none none hm (Nat.le_refl _) (.tup (sl.map dO))
  have en := enumF_eq dO 0 sl
  rcases w with w | ⟨x', y', w, w2⟩
  · simp only [F_gap_at, denF, b_gap_at, c_gap_at]
    simp only [Int.natCast_zero] at w
    simp [List.replicate, en, w, gapAt]
  · simp only [F_gap_at, denF, b_gap_at, c_gap_at]
    simp only [Int.natCast_zero] at w
    have e3 : ((sl.length : Nat) : Int) - (gapG (lt low) sl 0 0).1 = (gapG (lt low) sl 0 0).2 := by omega
    simp [List.replicate, en, w, gapAt, e3]
end K02

set_option maxRecDepth 100000
set_option maxHeartbeats 4000000
/-! EC: sums, answers, worst calls. -/
namespace K02
open PySem PySem.Spec PyProof.Rows L2 Rf
theorem okEq_ss {a b : Str} (ha : PyData.strOk a = true) (hb : PyData.strOk b = true) : okEq (.str a) (.str b) = true := okEq_of ha hb (.inl (by simp))
theorem e_slots_of {h : Ho} (V : Vd h) {s : Sh} (hs : s ∈ h.sh) : F_slots_of [dH h, .str s.nm] [] = some (.ok (.tup (s.sl.map dO)), []) := by
  have c := comp_eq (G := mkG [] []) (elt := .v 4) (t := .tp [(.nm 2), (.nm 3), (.nm 4)]) (it := .sq (.ix (.v 0) (.c (.int 0)))) (cs := .cons (.cmp .Eq (.v 2) (.v 1)) .nil) (own := [2, 3, 4]) (enc := dSh) (e := [some (dH h), some (.str s.nm), none, none, none]) (xs := h.sh)
    (fun t => [some (dH h), some (.str s.nm), some (.str t.nm), some (.tup (t.tk.map .str)), some (.tup (t.sl.map dO))]) (fun t => decide (t.nm = s.nm)) (fun t => .tup (t.sl.map dO)) (by simp [dH]) (fun t ht => by simp [dSh]) (fun t ht => by simp [okEq_ss (V.nmk t ht).1 (V.nmk s hs).1]) (fun t ht _ => by simp) (fun t ht => by simp)
  have h1 : s ∈ h.sh.filter fun t => decide (t.nm = s.nm) := List.mem_filter.mpr ⟨hs, decide_eq_true rfl⟩
  cases q : h.sh.filter fun t => decide (t.nm = s.nm) with
  | nil => rw [q] at h1; cases h1
  | cons t r =>
    have h2 : t ∈ h.sh.filter fun t => decide (t.nm = s.nm) := by rw [q]; exact List.mem_cons_self
    obtain ⟨h3, h4⟩ := List.mem_filter.mp h2
    have e := V.uniq h3 hs (of_decide_eq_true h4)
    rw [q, e] at c
    simp [-d_comp, F_slots_of, denF, b_slots_of, c_slots_of, List.replicate, c]
theorem worth_wh (G : Gam) : ∀ (n f : Nat), whD G (.cmp .Gt (.v 0) (.c (.int 0))) [.set 0 (.bin .FloorDiv (.bin .Sub (.v 0) (.c (.int 1))) (.c (.int 2))), .aug 1 .Add (.c (.int 1))] [some (.int n), some (.int f)] = some (.ok .nx, [some (.int 0), some (.int ((f + worth n : Nat) : Int))])
  | n, f => by
    rw [whD_turn]
    by_cases h : n = 0
    · subst h
      simp [worth_0]
    · have ih := worth_wh G ((n - 1) / 2) (f + 1)
      have e : (n : Int) - 1 = ((n - 1 : Nat) : Int) := by omega
      have e2 : ((n - 1 : Nat) : Int) / 2 = (((n - 1) / 2 : Nat) : Int) := by omega
      have hp : 0 < n := by omega
      have e3 : f + 1 + worth ((n - 1) / 2) = f + worth n := by rw [worth_pos hp]; omega
      have e4 : ((f + 1 : Nat) : Int) = (f : Int) + 1 := by omega
      have e5 : Nat.log2 2 < 9000 := by decide
      rw [e3, e4] at ih
      simp [hp, e, e5]
      rw [e2, ih]
      simp
termination_by n => n
decreasing_by omega
abbrev Row := Str × (M × M) × Int
def dR (r : Row) : D := .tup [.str r.1, dP r.2.1, .int r.2.2]
theorem strt_len {h : Ho} (V : Vd h) : (strt h).length ≤ 64 := by
  have : (allM h).length ≤ 63 := by rw [allM, ordM_len]; exact own_le V
  unfold strt ends
  simp only [List.length_zip, List.length_cons, List.length_append, List.length_drop, List.length_nil]
  omega
theorem strt_sz {h : Ho} (V : Vd h) {s : M × M} (hs : s ∈ strt h) : SzM s.1 ∧ SzM s.2 := by
  obtain ⟨a1, a2, _⟩ := V.str.mp hs
  exact ⟨(V.okEnd a1).sz, (V.okEnd a2).sz⟩
theorem gap_le (sl : List (Option M)) (low : M) : (gapAt sl low).1 + (gapAt sl low).2 ≤ sl.length := by
  obtain ⟨pre, R, post, h1, h2, d⟩ := gap_dec (lt low) sl
  have e : gapAt sl low = (pre.length, R) := h2
  rw [e, h1]
  simp only [List.length_append, List.length_replicate]
  omega
theorem aa_go {h : Ho} (V : Vd h) {c : Str} (hc : PyData.strOk c = true) {m : M} (hm : SzM m) : ∀ (l : List Sh) (acc : List An) (x1 x2 x3 x4 x5 x6 : Option D), (∀ s ∈ l, s ∈ h.sh) → acc.length + 20 * l.length ≤ 1000 → ∀ a : D, ∃ y1 y2 y3 y4 y5 y6, frD (mkG [F_gap_at] [.tup [.str "", .int 0]]) (.tp [(.nm 4), (.nm 5), (.nm 6)]) [.ifs (.cmp .In (.v 1) (.v 5)) [.unp (.tp [(.nm 7), (.nm 8)]) (.call 0 (.cons (.v 6) (.cons (.v 2) .nil)) []), .ext 3 (.comp (.tup (.cons (.v 4) (.cons (.v 9) .nil))) (.nm 9) (.r2 (.v 7) (.bin .Add (.v 7) (.v 8))) .nil [9])] []] (l.map dSh) [some a, some (.str c), some (dM m), some (.lst (acc.map dA)), x1, x2, x3, x4, x5, x6] = some (.ok .nx, [some a, some (.str c), some (dM m), some (.lst ((acc ++ l.flatMap (shA c m)).map dA)), y1, y2, y3, y4, y5, y6]) := by
  intro l
  induction l with
  | nil => intro acc x1 x2 x3 x4 x5 x6 _ _ a; exact ⟨x1, x2, x3, x4, x5, x6, by simp⟩
  | cons s l ih =>
    intro acc x1 x2 x3 x4 x5 x6 hmm hl a
    have hs := hmm s List.mem_cons_self
    rw [List.length_cons] at hl
    have i := in_strs (V.tkk s hs).2 hc
    have g := e_gap_at (sl := s.sl) (low := m) (fun q hq => (V.mrk s hs q hq).sz) hm
    have gl := gap_le s.sl m
    have s20 := (V.s1 s hs).2
    by_cases e : c ∈ s.tk
    · have sz : (shA c m s).length ≤ 20 := by unfold shA; rw [if_pos e, List.length_map, List.length_range]; omega
      obtain ⟨y1, y2, y3, y4, y5, y6, ih⟩ := ih (acc ++ shA c m s) (some (.str s.nm)) (some (.tup (s.tk.map .str))) (some (.tup (s.sl.map dO))) (some (.int (gapAt s.sl m).1)) (some (.int (gapAt s.sl m).2)) x6 (fun u hu => hmm u (List.mem_cons_of_mem _ hu)) (by rw [List.length_append]; omega) a
      refine ⟨y1, y2, y3, y4, y5, y6, ?_⟩
      rw [List.flatMap_cons, ← List.append_assoc, ← ih, List.map_cons, f_turn]
      rw [decide_eq_true e] at i
      have cc := comp_eq0 (G := mkG [F_gap_at] [.tup [.str "", .int 0]]) (elt := .tup (.cons (.v 4) (.cons (.v 9) .nil))) (t := .nm 9) (it := .r2 (.v 7) (.bin .Add (.v 7) (.v 8))) (own := [9]) (enc := fun i : Nat => .int ((gapAt s.sl m).1 + i)) (e := [some a, some (.str c), some (dM m), some (.lst (acc.map dA)), some (.str s.nm), some (.tup (s.tk.map .str)), some (.tup (s.sl.map dO)), some (.int (gapAt s.sl m).1), some (.int (gapAt s.sl m).2), x6]) (xs := List.range (gapAt s.sl m).2)
        (fun i => [some a, some (.str c), some (dM m), some (.lst (acc.map dA)), some (.str s.nm), some (.tup (s.tk.map .str)), some (.tup (s.sl.map dO)), some (.int (gapAt s.sl m).1), some (.int (gapAt s.sl m).2), some (.int ((gapAt s.sl m).1 + i))]) (fun i => dA (s.nm, (((gapAt s.sl m).1 + i : Nat) : Int)))
        (by
          have r := rng_ok (f := (gapAt s.sl m).1) (r := (gapAt s.sl m).2) (by omega)
          simp [r, rngF_eq]) (fun i hi => by simp) (fun i hi => by simp [dA]) (fun i hi => by simp)
      have em : (List.range (gapAt s.sl m).2).map (fun i => dA (s.nm, (((gapAt s.sl m).1 + i : Nat) : Int))) = (shA c m s).map dA := by
        unfold shA
        rw [if_pos e, List.map_map]
        rfl
      rw [em] at cc
      have hle : acc.length + (shA c m s).length ≤ LIM := by rw [lim_num]; omega
      simp [-d_comp, dSh, lstAt, i, g, cc, hle]
    · obtain ⟨y1, y2, y3, y4, y5, y6, ih⟩ := ih acc (some (.str s.nm)) (some (.tup (s.tk.map .str))) (some (.tup (s.sl.map dO))) x4 x5 x6 (fun u hu => hmm u (List.mem_cons_of_mem _ hu)) (by omega) a
      refine ⟨y1, y2, y3, y4, y5, y6, ?_⟩
      have es : shA c m s = [] := by unfold shA; rw [if_neg e]
      rw [List.flatMap_cons, es, List.nil_append, ← ih, List.map_cons, f_turn]
      rw [decide_eq_false e] at i
      simp [dSh, i]
theorem ok_empty : PyData.strOk ("" : Str) = true := by decide +kernel
theorem put_map (sl : List (Option M)) (k : Nat) (m : M) : (sl.map dO).take k ++ dM m :: (sl.map dO).drop (k + 1) = (put sl k m).map dO := by
  simp [put, List.map_take, List.map_drop]
end K02

set_option maxRecDepth 100000
set_option maxHeartbeats 4000000
/-! ED: what stands behind answers; worst calls. -/
namespace K02
open PySem PySem.Spec PyProof.Rows L2 Rf
theorem behind_cs (h : Ho) (m : M) (a : An) : (behind h m a).cs = h.cs := by
  unfold behind
  split <;> rfl
theorem behind_sh {h : Ho} {m : M} {a : An} {t : Sh} (ht : t ∈ (behind h m a).sh) : ∃ u ∈ h.sh, t.nm = u.nm ∧ t.tk = u.tk := by
  unfold behind at ht
  split at ht
  · exact ⟨t, ht, rfl, rfl⟩
  · obtain ⟨u, hu, rfl⟩ := List.mem_map.mp ht
    refine ⟨u, hu, ?_, ?_⟩ <;> split <;> rfl
theorem Vk.behind {h : Ho} (V : Vk h) {c : Str} {m : M} {a : An} (hm : OkM m) (hn : m ∉ allM h) (hf : (own h).length + 1 < 64) (ha : a ∈ answers h c m) : Vk (Rf.behind h m a) where
  toVd := V.toVd.behind hm hn hf ha
  fcs := by rw [behind_cs]; exact V.fcs
  fnm := fun t ht => by
    obtain ⟨u, hu, e1, e2⟩ := behind_sh ht
    rw [e1]
    exact V.fnm u hu
  ftk := fun t ht => by
    obtain ⟨u, hu, e1, e2⟩ := behind_sh ht
    rw [behind_cs, e2]
    exact V.ftk u hu
def numb (h : Ho) (c : Str) (m : M) : List (An × Int) := (answers h c m).map fun a => (a, sure (behind h m a))
def dN (r : An × Int) : D := .tup [dA r.1, .int r.2]
theorem ans_len {h : Ho} (V : Vd h) (c : Str) (m : M) : (answers h c m).length ≤ 101 := by
  unfold answers
  have g : ∀ l : List Sh, (∀ s ∈ l, s ∈ h.sh) → (l.flatMap (shA c m)).length ≤ 20 * l.length := by
    intro l
    induction l with
    | nil => intro _; simp
    | cons s l ih =>
      intro hm
      have hs := hm s List.mem_cons_self
      have ih := ih fun u hu => hm u (List.mem_cons_of_mem _ hu)
      rw [List.flatMap_cons, List.length_append, List.length_cons]
      have : (shA c m s).length ≤ 20 := by
        unfold shA
        split
        · rw [List.length_map, List.length_range]
          have := gap_le s.sl m
          have := (V.s1 s hs).2
          omega
        · simp
      omega
  have := g h.sh fun _ z => z
  have := V.n5
  rw [List.length_append]
  split
  · simp only [List.length_cons, List.length_nil]; omega
  · simp only [List.length_nil]; omega
theorem ans_ok {h : Ho} (V : Vd h) {c : Str} {m : M} {a : An} (ha : a ∈ answers h c m) : PyData.strOk a.1 = true := by
  rcases ans_mem.mp ha with ⟨rfl, _⟩ | ⟨s, hs, _, j, _, rfl⟩
  · exact ok_empty
  · exact (V.nmk s hs).1
theorem rows_eq {h : Ho} (V : Vd h) (c : Str) (m : M) : okEq (.lst ((numb h c m).map dN)) (.lst []) = true := by
  refine okEq_of ?_ rfl (.inr (by simp))
  rw [lay_l, layL_all, List.all_eq_true]
  intro d hd
  obtain ⟨r, hr, rfl⟩ := List.mem_map.mp hd
  obtain ⟨a, ha, rfl⟩ := List.mem_map.mp hr
  simp [dN, ans_ok V ha]
def bestD (h : Ho) (c : Str) (m : M) : D := if answers h c m = [] then .non else .tup [.int (maxI ((numb h c m).map (·.2))), .lst (((numb h c m).filter fun r => decide (r.2 = maxI ((numb h c m).map (·.2)))).map fun r => dA r.1)]
/-- the marks' bottoms leave room -/
def Low (h : Ho) : Prop := ∀ x ∈ allM h, 2 * x.2 < 10 ^ 40
theorem Low.ends {h : Ho} (L : Low h) {x : M} (hx : x ∈ ends h) : 2 * x.2 < 10 ^ 40 := by
  rcases ends_mem.mp hx with rfl | hx | rfl
  · decide
  · exact L x hx
  · decide
theorem mid_facts {h : Ho} (V : Vd h) (L : Low h) {s : M × M} (hs : s ∈ strt h) : OkM (mid s) ∧ lt s.1 (mid s) = true ∧ lt (mid s) s.2 = true ∧ mid s ∉ allM h ∧ (mid s).2 ≤ s.1.2 + s.2.2 := by
  obtain ⟨a1, a2, a3, a4⟩ := V.str.mp hs
  have b1 := L.ends a1
  have b2 := L.ends a2
  have c1 := (V.okEnd a1).c
  have c2 := (V.okEnd a2).c
  obtain ⟨m1, m2⟩ := mid_between c1 c2 a3
  exact ⟨mid_ok (V.okEnd a1) (V.okEnd a2) a3 (by omega), m1, m2, V.new hs m1 m2, red_le (by omega)⟩
def worstL (h : Ho) : List (Str × (M × M)) := h.cs.flatMap fun c => ((strt h).filter fun s => lessens h c (mid s)).map fun s => (c, s)
def dW (r : Str × (M × M)) : D := .tup [.str r.1, dP r.2]
theorem worst_mem {h : Ho} {r : Str × (M × M)} : r ∈ worstL h ↔ r.1 ∈ h.cs ∧ r.2 ∈ strt h ∧ lessens h r.1 (mid r.2) = true := by
  obtain ⟨c, s⟩ := r
  simp only [worstL, List.mem_flatMap, List.mem_map, List.mem_filter, Prod.mk.injEq]
  constructor
  · rintro ⟨c', hc, s', ⟨hs, hl⟩, rfl, rfl⟩
    exact ⟨hc, hs, hl⟩
  · rintro ⟨hc, hs, hl⟩
    exact ⟨c, hc, s, ⟨hs, hl⟩, rfl, rfl⟩
end K02

set_option maxRecDepth 100000
set_option maxHeartbeats 4000000
/-! EL: what the law's own defs give: marks, gaps, answers. -/
namespace K02
open PySem PySem.Spec PyProof.Rows L2 Rf
theorem e_xmarks {h : Ho} (V : Vd h) : F_xlaw_marks [dH h] [] = some (.ok (.lst ((allM h).map dM)), []) := by
  have go : ∀ (l : List Sh) (acc : List M) (x y z u : Option D), acc.length + (l.flatMap fun s => mks s.sl).length ≤ 1000 → ∀ a : D, ∃ x' y' z' u', frD (mkG [F_xlaw_rising] []) (.tp [(.nm 2), (.nm 3), (.nm 4)]) [.set 1 (.bin .Add (.v 1) (.comp (.v 5) (.nm 5) (.sq (.v 4)) (.cons (.cmp .IsNot (.v 5) (.c (.non))) .nil) [5]))] (l.map dSh) [some a, some (.lst (acc.map dM)), x, y, z, u] = some (.ok .nx, [some a, some (.lst ((acc ++ l.flatMap fun s => mks s.sl).map dM)), x', y', z', u']) := by
    intro l
    induction l with
    | nil => intro acc x y z u _ a; exact ⟨x, y, z, u, by simp⟩
    | cons s l ih =>
      intro acc x y z u hl a
      rw [List.flatMap_cons, List.length_append] at hl
      obtain ⟨x', y', z', u', ih⟩ := ih (acc ++ mks s.sl) (some (.str s.nm)) (some (.tup (s.tk.map .str))) (some (.tup (s.sl.map dO))) u (by rw [List.length_append]; omega) a
      refine ⟨x', y', z', u', ?_⟩
      rw [List.flatMap_cons, ← List.append_assoc, ← ih, List.map_cons, f_turn]
      have c := comp_eq (G := mkG [F_xlaw_rising] []) (elt := .v 5) (t := .nm 5) (it := .sq (.v 4)) (cs := .cons (.cmp .IsNot (.v 5) (.c (.non))) .nil) (own := [5]) (enc := dO) (e := [some a, some (.lst (acc.map dM)), some (.str s.nm), some (.tup (s.tk.map .str)), some (.tup (s.sl.map dO)), u]) (xs := s.sl)
        (fun q => [some a, some (.lst (acc.map dM)), some (.str s.nm), some (.tup (s.tk.map .str)), some (.tup (s.sl.map dO)), some (dO q)]) (fun q => !Rf.isNon (dO q)) dO (by simp) (fun q hq => by simp) (fun q hq => by simp) (fun q hq _ => by simp) (fun q hq => by simp)
      rw [mks_flt] at c
      have hle : acc.length + (mks s.sl).length ≤ LIM := by rw [lim_num]; omega
      simp [-d_comp, dSh, c, hle]
  obtain ⟨x', y', z', u', w⟩ := go h.sh [] none none none none (by have := own_le V; unfold own at this; simp only [List.length_nil]; omega) (dH h)
  have e := e_xrising (l := own h) (fun m hm => by
    obtain ⟨s, hs, hm⟩ := own_mem.mp hm
    exact (V.mrk s hs m hm).sz) (by have := own_le V; omega)
  have w2 : (List.flatMap (fun s => mks s.sl) h.sh) = own h := rfl
  rw [List.nil_append, List.map_nil, w2] at w
  unfold dH at w ⊢
  simp [F_xlaw_marks, denF, b_xlaw_marks, c_xlaw_marks, List.replicate, w, e, allM]
def pA (m : M) : Option M → Bool
  | none => false
  | some x => !lt x m
def pB (m : M) : Option M → Bool
  | none => false
  | some x => !lt m x
def inGap (sl : List (Option M)) (m : M) (p : Option M × Nat) : Bool := Rf.isNon (dO p.1) && (((sl.take p.2).filter (pA m)).isEmpty && ((sl.drop p.2).filter (pB m)).isEmpty)
theorem okEq_sl (l : List (Option M)) : okEq (.lst (l.map dO)) (.lst []) = true := by
  refine okEq_of ?_ rfl (.inr (by simp))
  rw [lay_l, layL_all, List.all_eq_true]
  intro d hd
  obtain ⟨o, _, rfl⟩ := List.mem_map.mp hd
  simp
theorem filter_none {α : Type} {p : α → Bool} {l : List α} (h : ∀ x ∈ l, p x = false) : l.filter p = [] := List.filter_eq_nil_iff.mpr fun x hx => by rw [h x hx]; decide
theorem gap_law {sl : List (Option M)} {m : M} (hm : OkM m) (hk : ∀ x ∈ mks sl, OkM x) (ha : Asc (mks sl)) (hn : m ∉ mks sl) : ((sl.zipIdx 0).filter (inGap sl m)).map (fun p => (p.2 : Int)) = (List.range (gapAt sl m).2).map fun i => (((gapAt sl m).1 + i : Nat) : Int) := by
  obtain ⟨pre, R, post, h1, h2, d⟩ := gap_dec (lt m) sl
  have e : gapAt sl m = (pre.length, R) := h2
  rw [e]
  have hk' := hk
  have ha' := ha
  have hn' := hn
  rw [h1] at hk' ha' hn'
  simp only [mks_app, mks_rep, List.nil_append] at hk' ha' hn'
  obtain ⟨a1, a2, a3⟩ := List.pairwise_append.mp ha'
  have hpost : ∀ x ∈ mks post, lt m x = true := by
    rcases d.next with rfl | ⟨y, r, rfl, hy⟩
    · intro x hx; cases hx
    · intro x hx
      rw [mks_some] at hx a2 hk'
      rcases List.mem_cons.mp hx with rfl | hx
      · exact hy
      · exact lt_tr hm.c (hk' y (by simp)).c (hk' x (by simp [hx])).c hy ((List.pairwise_cons.mp a2).1 x hx)
  have hpre : ∀ x ∈ mks pre, lt x m = true := fun x hx => by
    have hne : x ≠ m := fun z => hn' (by rw [← z]; simp [hx])
    rw [lt_tri (hk' x (by simp [hx])).toOkE hm.toOkE hne, d.low x hx]
    rfl
  have z1 : sl.zipIdx 0 = pre.zipIdx 0 ++ ((List.replicate R none).zipIdx pre.length ++ post.zipIdx (pre.length + R)) := by
    rw [h1, List.zipIdx_append, List.zipIdx_append, List.length_replicate, Nat.zero_add]
  rw [z1, List.filter_append, List.filter_append]
  have f1 : (pre.zipIdx 0).filter (inGap sl m) = [] := filter_none fun p hp => by
    obtain ⟨o, i⟩ := p
    obtain ⟨hi1, hi2, hi3⟩ := List.mem_zipIdx hp
    rcases d.last with rfl | ⟨q, x, rfl⟩
    · simp at hi2
    · have hx : some x ∈ (sl.drop i).filter (pB m) := by
        refine List.mem_filter.mpr ⟨?_, by simp [pB, d.low x (by simp)]⟩
        have hil : i ≤ q.length := by simp only [List.length_append, List.length_cons, List.length_nil] at hi2; omega
        rw [h1, List.append_assoc, List.drop_append_of_le_length hil]
        exact List.mem_append_right _ (by simp)
      have : ((sl.drop i).filter (pB m)).isEmpty = false := by
        cases q : (sl.drop i).filter (pB m) with
        | nil => rw [q] at hx; cases hx
        | cons _ _ => rfl
      simp [inGap, this]
  have f3 : (post.zipIdx (pre.length + R)).filter (inGap sl m) = [] := filter_none fun p hp => by
    obtain ⟨o, i⟩ := p
    obtain ⟨hi1, hi2, hi3⟩ := List.mem_zipIdx hp
    rcases d.next with rfl | ⟨x, r, rfl, hx⟩
    · simp at hp
    · by_cases hi : i = pre.length + R
      · subst hi
        simp at hi3
        rw [hi3]
        simp [inGap]
      · have hxm : some x ∈ (sl.take i).filter (pA m) := by
          refine List.mem_filter.mpr ⟨?_, by simp [pA, lt_asym hx]⟩
          have hs : sl = (pre ++ List.replicate R none ++ [some x]) ++ r := by rw [h1]; simp
          have hl : (pre ++ List.replicate R none ++ [some x]).length ≤ i := by simp only [List.length_append, List.length_replicate, List.length_cons, List.length_nil]; omega
          rw [hs, List.take_append, List.take_of_length_le hl]
          exact List.mem_append_left _ (by simp)
        have : ((sl.take i).filter (pA m)).isEmpty = false := by
          cases q : (sl.take i).filter (pA m) with
          | nil => rw [q] at hxm; cases hxm
          | cons _ _ => rfl
        simp [inGap, this]
  have f2 : ((List.replicate R (none : Option M)).zipIdx pre.length).filter (inGap sl m) = (List.replicate R none).zipIdx pre.length := List.filter_eq_self.mpr fun p hp => by
    obtain ⟨o, i⟩ := p
    obtain ⟨hi1, hi2, hi3⟩ := List.mem_zipIdx hp
    rw [List.length_replicate] at hi2
    have ho : o = none := by rw [hi3]; simp
    obtain ⟨j, rfl⟩ : ∃ j, i = pre.length + j := ⟨i - pre.length, by omega⟩
    obtain ⟨t, rfl⟩ : ∃ t, R = j + t := ⟨R - j, by omega⟩
    have hs : sl = (pre ++ List.replicate j none) ++ (List.replicate t none ++ post) := by
      rw [h1, show List.replicate (j + t) (none : Option M) = List.replicate j none ++ List.replicate t none from List.replicate_append_replicate.symm]
      simp only [List.append_assoc]
    have hl : (pre ++ List.replicate j (none : Option M)).length = pre.length + j := by simp
    have t1 : sl.take (pre.length + j) = pre ++ List.replicate j none := by rw [hs, ← hl, List.take_left]
    have t2 : sl.drop (pre.length + j) = List.replicate t none ++ post := by rw [hs, ← hl, List.drop_left]
    have g1 : (pre ++ List.replicate j none).filter (pA m) = [] := filter_none fun x hx => by
      cases x with
      | none => rfl
      | some x =>
        have : x ∈ mks pre := by
          rcases List.mem_append.mp hx with hx | hx
          · exact mks_mem.mpr hx
          · have := List.eq_of_mem_replicate hx; cases this
        simp [pA, hpre x this]
    have g2 : (List.replicate t none ++ post).filter (pB m) = [] := filter_none fun x hx => by
      cases x with
      | none => rfl
      | some x =>
        have : x ∈ mks post := by
          rcases List.mem_append.mp hx with hx | hx
          · have := List.eq_of_mem_replicate hx; cases this
          · exact mks_mem.mpr hx
        simp [pB, hpost x this]
    simp only [inGap, ho, t1, t2, g1, g2]
    rfl
  rw [f1, f2, f3, List.nil_append, List.append_nil]
  apply List.ext_getElem?
  intro i
  simp only [List.getElem?_map, List.getElem?_zipIdx, List.getElem?_replicate, List.getElem?_range']
  by_cases hi : i < R
  · simp [hi]
  · simp [hi]
theorem e_xgap {sl : List (Option M)} {m : M} (hm : OkM m) (hk : ∀ x ∈ mks sl, OkM x) (ha : Asc (mks sl)) (hn : m ∉ mks sl) (hl : sl.length ≤ 20) : F_xlaw_gap [.tup (sl.map dO), dM m] [] = some (.ok (.lst (((List.range (gapAt sl m).2).map fun i => (((gapAt sl m).1 + i : Nat) : Int)).map .int)), []) := by
  have go : ∀ (l : List (Option M × Nat)) (acc : List Int) (x1 x2 x3 x4 x5 : Option D), acc.length + l.length ≤ 1000 → ∃ y1 y2 y3 y4 y5, frD (mkG [F_xlaw_less] []) (.tp [(.nm 3), (.nm 4)]) [.set 5 (.comp (.v 7) (.nm 7) (.sq (.sl (.v 0) .no (.so (.v 3)))) (.cons (.and (.cmp .IsNot (.v 7) (.c (.non))) (.not (.call 0 (.cons (.v 7) (.cons (.v 1) .nil)) []))) .nil) [7]), .set 6 (.comp (.v 7) (.nm 7) (.sq (.sl (.v 0) (.so (.v 3)) .no)) (.cons (.and (.cmp .IsNot (.v 7) (.c (.non))) (.not (.call 0 (.cons (.v 1) (.cons (.v 7) .nil)) []))) .nil) [7]), .ifs (.and (.cmp .Is (.v 4) (.c (.non))) (.and (.cmp .Eq (.v 5) (.lst .nil)) (.cmp .Eq (.v 6) (.lst .nil)))) [.app 2 (.v 3)] []] (l.map fun p => .tup [.int p.2, dO p.1]) [some (.tup (sl.map dO)), some (dM m), some (.lst (acc.map .int)), x1, x2, x3, x4, x5] = some (.ok .nx, [some (.tup (sl.map dO)), some (dM m), some (.lst ((acc ++ (l.filter (inGap sl m)).map fun p => (p.2 : Int)).map .int)), y1, y2, y3, y4, y5]) := by
    intro l
    induction l with
    | nil => intro acc x1 x2 x3 x4 x5 _; exact ⟨x1, x2, x3, x4, x5, by simp⟩
    | cons p l ih =>
      intro acc x1 x2 x3 x4 x5 hl
      obtain ⟨o, i⟩ := p
      rw [List.length_cons] at hl
      have ca := comp_eq (G := mkG [F_xlaw_less] []) (elt := .v 7) (t := .nm 7) (it := .sq (.sl (.v 0) .no (.so (.v 3)))) (cs := .cons (.and (.cmp .IsNot (.v 7) (.c (.non))) (.not (.call 0 (.cons (.v 7) (.cons (.v 1) .nil)) []))) .nil) (own := [7]) (enc := dO) (e := [some (.tup (sl.map dO)), some (dM m), some (.lst (acc.map .int)), some (.int i), some (dO o), x3, x4, x5]) (xs := sl.take i)
        (fun q => [some (.tup (sl.map dO)), some (dM m), some (.lst (acc.map .int)), some (.int i), some (dO o), x3, x4, some (dO q)]) (pA m) dO (by simp [cut_to]) (fun q hq => by simp) (fun q hq => by
          cases q with
          | none => simp [pA]
          | some q => simp [pA, e_xless (hk q (mks_mem.mpr (List.mem_of_mem_take hq))).sz hm.sz]) (fun q hq _ => by simp) (fun q hq => by simp)
      have cb := comp_eq (G := mkG [F_xlaw_less] []) (elt := .v 7) (t := .nm 7) (it := .sq (.sl (.v 0) (.so (.v 3)) .no)) (cs := .cons (.and (.cmp .IsNot (.v 7) (.c (.non))) (.not (.call 0 (.cons (.v 1) (.cons (.v 7) .nil)) []))) .nil) (own := [7]) (enc := dO) (e := [some (.tup (sl.map dO)), some (dM m), some (.lst (acc.map .int)), some (.int i), some (dO o), some (.lst (((sl.take i).filter (pA m)).map dO)), x4, x5]) (xs := sl.drop i)
        (fun q => [some (.tup (sl.map dO)), some (dM m), some (.lst (acc.map .int)), some (.int i), some (dO o), some (.lst (((sl.take i).filter (pA m)).map dO)), x4, some (dO q)]) (pB m) dO (by simp [cut_from]) (fun q hq => by simp) (fun q hq => by
          cases q with
          | none => simp [pB]
          | some q => simp [pB, e_xless hm.sz (hk q (mks_mem.mpr (List.mem_of_mem_drop hq))).sz]) (fun q hq _ => by simp) (fun q hq => by simp)
      have o1 := okEq_sl ((sl.take i).filter (pA m))
      have o2 := okEq_sl ((sl.drop i).filter (pB m))
      by_cases g : inGap sl m (o, i) = true
      · obtain ⟨y1, y2, y3, y4, y5, ih⟩ := ih (acc ++ [(i : Int)]) (some (.int i)) (some (dO o)) (some (.lst (((sl.take i).filter (pA m)).map dO))) (some (.lst (((sl.drop i).filter (pB m)).map dO))) x5 (by rw [List.length_append]; simp only [List.length_cons, List.length_nil]; omega)
        refine ⟨y1, y2, y3, y4, y5, ?_⟩
        have e : acc ++ (((o, i) :: l).filter (inGap sl m)).map (fun p => (p.2 : Int)) = acc ++ [(i : Int)] ++ (l.filter (inGap sl m)).map fun p => (p.2 : Int) := by rw [List.filter_cons, if_pos g]; simp
        rw [e, ← ih, List.map_cons, f_turn]
        have hle : acc.length < LIM := by rw [lim_num]; omega
        unfold inGap at g
        simp only [Bool.and_eq_true, List.isEmpty_iff] at g
        obtain ⟨g1, g2, g3⟩ := g
        simp only [g2, List.map_nil] at ca cb o1
        simp only [g3, List.map_nil] at cb o2
        simp [-d_comp, lstAt, ca, cb, o1, o2, g1, g2, g3, hle]
      · obtain ⟨y1, y2, y3, y4, y5, ih⟩ := ih acc (some (.int i)) (some (dO o)) (some (.lst (((sl.take i).filter (pA m)).map dO))) (some (.lst (((sl.drop i).filter (pB m)).map dO))) x5 (by omega)
        refine ⟨y1, y2, y3, y4, y5, ?_⟩
        rw [List.filter_cons, if_neg g, ← ih, List.map_cons, f_turn]
        have g' : inGap sl m (o, i) = false := by simpa using g
        unfold inGap at g'
        simp only at g'
        cases h1 : Rf.isNon (dO o) with
        | false => simp [-d_comp, lstAt, ca, cb, h1]
        | true =>
          rw [h1, Bool.true_and] at g'
          cases h2 : ((sl.take i).filter (pA m)).isEmpty with
          | false => simp [-d_comp, -eq_ll, lstAt, ca, cb, h1, o1, o2, eqD_nil, h2]
          | true =>
            rw [h2, Bool.true_and] at g'
            simp [-d_comp, -eq_ll, lstAt, ca, cb, h1, o1, o2, eqD_nil, h2, g']
  obtain ⟨y1, y2, y3, y4, y5, w⟩ := go (sl.zipIdx 0) [] none none none none none (by simp only [List.length_nil, List.length_zipIdx]; omega)
  rw [List.nil_append, List.map_nil, gap_law hm hk ha hn] at w
  have en := enumF_eq dO 0 sl
  simp only [F_xlaw_gap, denF, b_xlaw_gap, c_xlaw_gap]
  simp [-List.map_map, List.replicate, en, w]
end K02

set_option maxRecDepth 100000
set_option maxHeartbeats 4000000
/-! EM: the law's answers, the house behind. -/
namespace K02
open PySem PySem.Spec PyProof.Rows L2 Rf
end K02

set_option maxRecDepth 100000
set_option maxHeartbeats 4000000
/-! EF: the law's draws. -/
namespace K02
open PySem PySem.Spec PyProof.Rows L2 Rf
theorem e_deck (cell turn : Int) (ht : 0 ≤ turn ∧ turn ≤ 100) : ∃ k, OkD 100 k ∧ F_xlaw_deck [.int cell, .int turn] [] = some (.ok (dD k), []) := by
  have m0 : 0 ≤ cell % 2147483579 := Int.emod_nonneg _ (by decide)
  have m1 : cell % 2147483579 < 2147483579 := Int.emod_lt_of_pos _ (by decide)
  have e31 : (2 : Int) ^ 31 = 2147483648 := by decide
  by_cases h : 1000000000000000000 ≤ cell
  · refine ⟨(cell - 1000000000000000000, cell % 2147483579, turn), ⟨m0, by rw [e31]; simp only; omega, ht.1, ht.2⟩, ?_⟩
    simp [F_xlaw_deck, denF, b_xlaw_deck, c_xlaw_deck, List.replicate, h, dD]
  · refine ⟨(0, cell % 2147483579, turn), ⟨m0, by rw [e31]; simp only; omega, ht.1, ht.2⟩, ?_⟩
    simp [F_xlaw_deck, denF, b_xlaw_deck, c_xlaw_deck, List.replicate, h, dD]
theorem e_pick {n : Nat} {k : Dk} {L : Int} (hk : OkD n k) (hn : n ≤ 10000000000) (h0 : 0 < L) (hL : L ≤ 100000000000000000000) : ∃ r k', F_xlaw_pick [.int L] [dD k] = some (.ok (.int r), [dD k']) ∧ 0 ≤ r ∧ r < L ∧ OkD (n + 1) k' := by
  obtain ⟨a, b, c⟩ := k
  obtain ⟨b0, b1, c0, c1⟩ := hk
  simp only at b0 b1 c0 c1
  have e31 : (2 : Int) ^ 31 = 2147483648 := by decide
  rw [e31] at b1
  have lL : L.natAbs.log2 < 9000 := fl_ok (Sz.num (by omega) (by omega))
  by_cases ha : 1 < a
  · refine ⟨a % L, (a / L, b, c), ?_, Int.emod_nonneg _ (by omega), Int.emod_lt_of_pos _ h0, ⟨b0, by rw [e31]; exact b1, c0, by simp only; omega⟩⟩
    simp [F_xlaw_pick, denF, b_xlaw_pick, c_xlaw_pick, List.replicate, dD, ha, h0, lL, stD_0]
  · have mb : mulB 15485867 (c + 1) = true := mul_ok (Sz.num (by decide) (by decide)) (Sz.num (by omega) (by omega))
    have mc : mulB 7919 (c + 1) = true := mul_ok (Sz.num (by decide) (by decide)) (Sz.num (by omega) (by omega))
    have p1 : (b + 15485867 * (c + 1)).natAbs < 18446744073709551616 := by omega
    obtain ⟨u, hu⟩ : ∃ u, (b + 15485867 * (c + 1)) ^ 5 % 2147483647 = u := ⟨_, rfl⟩
    have u0 : 0 ≤ u := by rw [← hu]; exact Int.emod_nonneg _ (by decide)
    have u1 : u < 2147483647 := by rw [← hu]; exact Int.emod_lt_of_pos _ (by decide)
    have p2 : (u + 7919 * (c + 1)).natAbs < 18446744073709551616 := by omega
    obtain ⟨v, hv⟩ : ∃ v, (u + 7919 * (c + 1)) ^ 3 % 2147483629 = v := ⟨_, rfl⟩
    have v0 : 0 ≤ v := by rw [← hv]; exact Int.emod_nonneg _ (by decide)
    have v1 : v < 2147483629 := by rw [← hv]; exact Int.emod_lt_of_pos _ (by decide)
    have l32 : Nat.log2 32 < 9000 := by decide
    have mf : mulB (v / 32) 2147483563 = true := mul_ok (Sz.num (by omega) (by omega)) (Sz.num (by decide) (by decide))
    have ok2 : OkD (n + 1) (a, b, c + 1) := ⟨b0, by rw [e31]; exact b1, by simp only; omega, by simp only; omega⟩
    by_cases hl : 1000000 < L
    · refine ⟨(v / 32 * 2147483563 + u) % L, (a, b, c + 1), ?_, Int.emod_nonneg _ (by omega), Int.emod_lt_of_pos _ h0, ok2⟩
      simp [F_xlaw_pick, denF, b_xlaw_pick, c_xlaw_pick, List.replicate, dD, ha, h0, stD_2, mb, p1, hu, mc, p2, hv, l32, hl, mf]
    · refine ⟨v / 32 % L, (a, b, c + 1), ?_, Int.emod_nonneg _ (by omega), Int.emod_lt_of_pos _ h0, ok2⟩
      simp [F_xlaw_pick, denF, b_xlaw_pick, c_xlaw_pick, List.replicate, dD, ha, h0, stD_2, mb, p1, hu, mc, p2, hv, l32, hl]
theorem e_one {n : Nat} {k : Dk} {xs : List D} (hk : OkD n k) (hn : n ≤ 10000000000) (h0 : xs ≠ []) (hl : xs.length ≤ 1000000) : ∃ d k', d ∈ xs ∧ F_xlaw_one [.lst xs] [dD k] = some (.ok d, [dD k']) ∧ OkD (n + 1) k' := by
  have lp : 0 < xs.length := List.length_pos_iff.mpr h0
  obtain ⟨r, k', h1, h2, h3, h4⟩ := e_pick (L := xs.length) hk hn (by omega) (by omega)
  obtain ⟨j, rfl⟩ := Int.eq_ofNat_of_zero_le h2
  have hj : j < xs.length := by omega
  refine ⟨xs[j], k', List.getElem_mem hj, ?_, h4⟩
  have ix : ixD (.lst xs) (.int (j : Int)) = some xs[j] := by
    show L2.atI xs (j : Int) = _
    rw [at_nat, List.getElem?_eq_getElem hj]
  simp [F_xlaw_one, denF, b_xlaw_one, c_xlaw_one, List.replicate, h1, ix]
theorem e_some {n many : Nat} {k : Dk} {low high : Int} (hk : OkD n k) (hn : n ≤ 1000000000) (h0 : low ≤ high) (hL : high - low < 100000000000000000000) (hm : many ≤ 60) : ∃ (ns : List Int) (k' : Dk), F_xlaw_some [.int low, .int high, .int many] [dD k] = some (.ok (.lst (ns.map .int)), [dD k']) ∧ ns.Pairwise (· < ·) ∧ (∀ x ∈ ns, low ≤ x ∧ x ≤ high) ∧ ns.length ≤ many ∧ OkD (n + 2 * many) k' := by
  have go : ∀ (xs : List Nat) (c : Nat) (k : Dk) (ns : List Int) (x : Option D), c + xs.length ≤ n + 2 * many → OkD c k → ns.Nodup → (∀ y ∈ ns, low ≤ y ∧ y ≤ high) → ns.length ≤ many →
      ∃ k' ns' x', frD (mkG [F_xlaw_pick] []) (.nm 5) [.ifs (.cmp .Lt (.bi .len (.cons (.v 4) .nil)) (.v 3)) [.stx 4 (.bin .Add (.v 1) (.call 0 (.cel 0 (.cons (.bin .Add (.bin .Sub (.v 2) (.v 1)) (.c (.int 1))) .nil)) [0])) (.c (.bl true))] []] (xs.map fun i : Nat => .int (0 + (i : Int))) [some (dD k), some (.int low), some (.int high), some (.int many), some (dKs ns), x] = some (.ok .nx, [some (dD k'), some (.int low), some (.int high), some (.int many), some (dKs ns'), x']) ∧ OkD (c + xs.length) k' ∧ ns'.Nodup ∧ (∀ y ∈ ns', low ≤ y ∧ y ≤ high) ∧ ns'.length ≤ many := by
    intro xs
    induction xs with
    | nil => intro c k ns x _ h1 h2 h3 h4; exact ⟨k, ns, x, rfl, h1, h2, h3, h4⟩
    | cons i xs ih =>
      intro c k ns x hc h1 h2 h3 h4
      rw [List.length_cons] at hc
      rw [List.map_cons, f_turn]
      have ec : c + (i :: xs).length = c + 1 + xs.length := by rw [List.length_cons]; omega
      rw [ec]
      have ln := len_dKs ns
      by_cases hlt : ns.length < many
      · obtain ⟨r, k1, p1, p2, p3, p4⟩ := e_pick (L := high - low + 1) h1 (by omega) (by omega) (by omega)
        obtain ⟨k', ns', x', g1, g2, g3, g4, g5⟩ := ih (c + 1) k1 (if low + r ∈ ns then ns else ns ++ [low + r]) (some (.int (0 + (i : Int)))) (by omega) p4 (by
            split
            · exact h2
            · rename_i hnm
              exact List.nodup_append.mpr ⟨h2, by simp, fun a ha b hb => by rw [List.mem_singleton.mp hb]; exact fun e => hnm (e ▸ ha)⟩) (by
            intro y hy
            split at hy
            · exact h3 y hy
            · rcases List.mem_append.mp hy with hy | hy
              · exact h3 y hy
              · rw [List.mem_singleton.mp hy]; omega) (by
            split
            · exact h4
            · rw [List.length_append]; simp only [List.length_cons, List.length_nil]; omega)
        refine ⟨k', ns', x', ?_, g2, g3, g4, g5⟩
        rw [← g1]
        have st := stD_dic (ns := ns) (n := low + r) (by omega)
        have hli : (ns.length : Int) < many := by omega
        simp [ln, hlt, p1, st]
      · obtain ⟨k', ns', x', g1, g2, g3, g4, g5⟩ := ih (c + 1) k ns (some (.int (0 + (i : Int)))) (by omega) (h1.mono (by omega)) h2 h3 h4
        refine ⟨k', ns', x', ?_, g2, g3, g4, g5⟩
        rw [← g1]
        simp [ln, hlt]
  obtain ⟨k', ns', x', g1, g2, g3, g4, g5⟩ := go (List.range (2 * many)) n k [] none (by rw [List.length_range]; omega) hk .nil (fun _ z => nomatch z) (by simp)
  rw [List.length_range] at g2
  have P := srtI_perm ns'
  refine ⟨srtI ns', k', ?_, ?_, fun x hx => g4 x (P.mem_iff.mp hx), by rw [P.length_eq]; exact g5, g2⟩
  · have m2 : mulB 2 (many : Int) = true := mul_ok (Sz.num (by decide) (by decide)) (Sz.num (by omega) (by omega))
    have rr := rng_0 (n := 2 * many) (by omega)
    have e2 : ((2 * many : Nat) : Int) = 2 * (many : Int) := by omega
    rw [e2] at rr
    have sd := sorted_dKs (ns := ns') (by omega)
    have ek : dKs [] = .dic [] := rfl
    rw [ek] at g1
    have er := rngF_eq 0 (2 * many)
    rw [← er] at g1
    simp [-rngF_eq, F_xlaw_some, denF, b_xlaw_some, c_xlaw_some, List.replicate, m2, rr, g1, sd]
  · have o := srtI_ord ns'
    have nd : (srtI ns').Nodup := P.nodup_iff.mpr g3
    exact List.Pairwise.imp₂ (fun a b h1 h2 => by omega) o (List.nodup_iff_pairwise_ne.mp nd)
end K02

set_option maxRecDepth 100000
set_option maxHeartbeats 4000000
/-! EG: slots filled; names, colours; a drawn house. -/
namespace K02
open PySem PySem.Spec PyProof.Rows L2 Rf
theorem zip_snd_sub {α β : Type} : ∀ (a : List α) (b : List β), ((a.zip b).map (·.2)).Sublist b
  | [], b => by simp
  | _ :: _, [] => by simp
  | x :: a, y :: b => by
    rw [List.zip_cons_cons, List.map_cons]
    exact (zip_snd_sub a b).cons_cons _
theorem fill_go (a : D) (b : D) (k : Option D) (sp tn : Option D) : ∀ (zs : List (Nat × M)) (sl : List (Option M)) (x y : Option D), (∀ z ∈ zs, z.1 < sl.length) → ∃ x' y', frD (mkG [F_xlaw_some] []) (.tp [(.nm 6), (.nm 7)]) [.stx 5 (.v 6) (.v 7)] (zs.map fun p => .tup [.int p.1, dM p.2]) [k, some a, some b, sp, tn, some (.lst (sl.map dO)), x, y] = some (.ok .nx, [k, some a, some b, sp, tn, some (.lst ((fillM zs sl).map dO)), x', y'])
  | [], sl, x, y, _ => ⟨x, y, rfl⟩
  | z :: zs, sl, x, y, h => by
    have hz := h z List.mem_cons_self
    obtain ⟨x', y', ih⟩ := fill_go a b k sp tn zs (sl.set z.1 (some z.2)) (some (.int z.1)) (some (dM z.2)) (fun y hy => by rw [List.length_set]; exact h y (List.mem_cons_of_mem _ hy))
    refine ⟨x', y', ?_⟩
    rw [fillM, ← ih, List.map_cons, f_turn]
    have st := stD_nat (sl.map dO) z.1 (dM z.2) (by rw [List.length_map]; exact hz)
    have e : (sl.map dO).set z.1 (dM z.2) = (sl.set z.1 (some z.2)).map dO := by rw [List.map_set]; rfl
    rw [e] at st
    simp [-List.map_set, st]
theorem rep_none (n : Nat) : (List.replicate n [D.non]).flatten = (List.replicate n (none : Option M)).map dO := by
  induction n with
  | zero => rfl
  | succ n ih => rw [List.replicate_succ, List.replicate_succ, List.flatten_cons, ih]; rfl
theorem e_filled {n size : Nat} {k : Dk} {ms : List M} (hk : OkD n k) (hn : n ≤ 100000000) (h0 : 1 ≤ size) (h1 : size ≤ 20) (hm : ms.length ≤ 20) : ∃ (sl : List (Option M)) (k' : Dk), F_xlaw_filled [.int size, .lst (ms.map dM)] [dD k] = some (.ok (.tup (sl.map dO)), [dD k']) ∧ sl.length = size ∧ (mks sl).Sublist ms ∧ OkD (n + 120) k' := by
  have go : ∀ (xs : List Nat) (c : Nat) (k : Dk) (ns : List Int) (x4 x5 x6 x7 : Option D), c + 40 * xs.length ≤ 200000000 → OkD c k → ns.Pairwise (· < ·) → (∀ y ∈ ns, 0 ≤ y ∧ y ≤ (size : Int) - 1) → ns.length ≤ ms.length →
      ∃ (k' : Dk) (ns' : List Int) (x' : Option D), frD (mkG [F_xlaw_some] []) (.nm 4) [.ifs (.cmp .Lt (.bi .len (.cons (.v 3) .nil)) (.bi .len (.cons (.v 2) .nil))) [.set 3 (.call 0 (.cel 0 (.cons (.c (.int 0)) (.cons (.bin .Sub (.v 1) (.c (.int 1))) (.cons (.bi .len (.cons (.v 2) .nil)) .nil)))) [0])] []] (xs.map fun i : Nat => .int (0 + (i : Int))) [some (dD k), some (.int size), some (.lst (ms.map dM)), some (.lst (ns.map .int)), x4, x5, x6, x7] = some (.ok .nx, [some (dD k'), some (.int size), some (.lst (ms.map dM)), some (.lst (ns'.map .int)), x', x5, x6, x7]) ∧ OkD (c + 40 * xs.length) k' ∧ ns'.Pairwise (· < ·) ∧ (∀ y ∈ ns', 0 ≤ y ∧ y ≤ (size : Int) - 1) ∧ ns'.length ≤ ms.length := by
    intro xs
    induction xs with
    | nil => intro c k ns x4 x5 x6 x7 _ h1 h2 h3 h4; exact ⟨k, ns, x4, rfl, h1, h2, h3, h4⟩
    | cons i xs ih =>
      intro c k ns x4 x5 x6 x7 hc h1 h2 h3 h4
      rw [List.length_cons] at hc
      rw [List.map_cons, f_turn]
      have ec : c + 40 * (i :: xs).length = c + 40 + 40 * xs.length := by rw [List.length_cons]; omega
      rw [ec]
      by_cases hlt : ns.length < ms.length
      · obtain ⟨ns1, k1, p1, p2, p3, p4, p5⟩ := e_some (many := ms.length) (low := 0) (high := (size : Int) - 1) h1 (by omega) (by omega) (by omega) (by omega)
        obtain ⟨k', ns', x', g1, g2, g3, g4, g5⟩ := ih (c + 40) k1 ns1 (some (.int (0 + (i : Int)))) x5 x6 x7 (by omega) (p5.mono (by omega)) p2 p3 p4
        refine ⟨k', ns', x', ?_, g2, g3, g4, g5⟩
        rw [← g1]
        simp [hlt, p1]
      · obtain ⟨k', ns', x', g1, g2, g3, g4, g5⟩ := ih (c + 40) k ns (some (.int (0 + (i : Int)))) x5 x6 x7 (by omega) (h1.mono (by omega)) h2 h3 h4
        refine ⟨k', ns', x', ?_, g2, g3, g4, g5⟩
        rw [← g1]
        simp [hlt]
  obtain ⟨k', ns, x', g1, g2, g3, g4, g5⟩ := go (List.range 3) n k [] none none none none (by rw [List.length_range]; omega) hk .nil (fun _ z => nomatch z) (by simp)
  rw [List.length_range] at g2
  have rr : rngD (.int 0) (.int 3) = some (rngF 0 3) := rng_0 (n := 3) (by omega)
  have er := rngF_eq 0 3
  rw [← er] at g1
  simp only [List.map_nil] at g1
  obtain ⟨zs, hzs⟩ : ∃ zs, zs = (ns.map Int.toNat).zip ms := ⟨_, rfl⟩
  have zb : ∀ z ∈ zs, z.1 < size := fun z hz => by
    rw [hzs] at hz
    obtain ⟨a1, a2⟩ := List.of_mem_zip (a := z.1) (b := z.2) hz
    obtain ⟨y, hy, e⟩ := List.mem_map.mp a1
    have := g4 y hy
    omega
  have zp : zs.Pairwise fun a c => a.1 < c.1 := by
    have hp : (ns.map Int.toNat).Pairwise (· < ·) := by
      rw [List.pairwise_map]
      refine List.Pairwise.imp_of_mem (fun {a b} ha hb h => ?_) g3
      have := g4 a ha
      omega
    have go2 : ∀ (a : List Nat) (b : List M), a.Pairwise (· < ·) → (a.zip b).Pairwise fun a c => a.1 < c.1 := by
      intro a
      induction a with
      | nil => intro b _; simp
      | cons x a ih =>
        intro b h
        cases b with
        | nil => simp
        | cons y b =>
          obtain ⟨q1, q2⟩ := List.pairwise_cons.mp h
          rw [List.zip_cons_cons]
          exact List.pairwise_cons.mpr ⟨fun p hp => q1 _ (List.of_mem_zip (a := p.1) (b := p.2) hp).1, ih b q2⟩
    rw [hzs]
    exact go2 _ _ hp
  have rl : (List.replicate size (none : Option M)).length = size := List.length_replicate
  obtain ⟨f1, f2⟩ := fillM_mks zs 0 (List.replicate size none) zp (fun z hz => ⟨by omega, by rw [rl]; exact zb z hz⟩) (by simp)
  obtain ⟨y1, y2, w⟩ := fill_go (.int size) (.lst (ms.map dM)) (some (dD k')) (some (.lst (ns.map .int))) x' zs (List.replicate size none) none none (fun z hz => by rw [rl]; exact zb z hz)
  have ze : zipF (ns.map D.int) (ms.map dM) = zs.map fun p => .tup [.int p.1, dM p.2] := by
    rw [zipF_zip, hzs, List.zip_map_left, List.map_map]
    apply List.map_congr_left
    intro p hp
    have := g4 _ (List.of_mem_zip (a := p.1) (b := p.2) hp).1
    simp only [Function.comp, Prod.map]
    congr 3
    simp
    omega
  refine ⟨fillM zs (List.replicate size none), k', ?_, by rw [f1, rl], ?_, g2.mono (by omega)⟩
  · have l62 : (size : Int) < 2 ^ 62 := lt62 (by omega)
    have l2 : size ≤ LIM := by rw [lim_num]; omega
    have rn := rep_none size
    have bm : binD .Mult (.lst [.non]) (.int size) = some (.lst ((List.replicate size (none : Option M)).map dO)) := by
      rw [bM_li, if_pos ⟨by omega, l62, by simp only [List.length_cons, List.length_nil, Int.toNat_natCast]; omega⟩, Int.toNat_natCast, rn]
    simp only [F_xlaw_filled, denF, b_xlaw_filled, c_xlaw_filled]
    simp [-bM_li, -rngF_eq, -List.map_replicate, List.replicate, rr, g1, bm, ze, w]
  · rw [f2, mks_rep, List.nil_append, hzs]
    exact zip_snd_sub _ _
/-! ### names, colours -/
def isName (s : Str) : Bool := decide ((1 : Int) ≤ s.length) && (decide ((s.length : Int) ≤ 8) && s.cps.toList.all fun c => strIn ⟨#[c]⟩ "abcdefghijklmnopqrstuvwxyz")
theorem e_is_name {s : Str} (h : isName s = true) : F_is_name [.str s] [] = some (.ok (.bl true), []) := by
  unfold isName at h
  simp only [Bool.and_eq_true, decide_eq_true_eq] at h
  obtain ⟨h1, h2, h3⟩ := h
  have hl : s.length ≤ LIM := by rw [lim_num]; omega
  have hc : s.cps.size ≤ LIM := hl
  have it : itemsD (.str s) = some (s.cps.toList.map fun c => D.str ⟨#[c]⟩) := by
    show (if s.cps.size ≤ LIM then _ else _) = _
    rw [if_pos hc]
  have c1 := comp_eq0 (G := mkG [] [.str "abcdefghijklmnopqrstuvwxyz"]) (elt := .cmp .In (.v 1) (.g 0)) (t := .nm 1) (it := .sq (.v 0)) (own := [1]) (enc := fun c => D.str ⟨#[c]⟩) (e := [some (.str s), none]) (xs := s.cps.toList)
    (fun c => [some (.str s), some (.str ⟨#[c]⟩)]) (fun c => .bl (strIn ⟨#[c]⟩ "abcdefghijklmnopqrstuvwxyz")) (by simp [it]) (fun q hq => by simp) (fun q hq => by simp [inD]) (fun q hq => by simp)
  have a1 := all_m s.cps.toList fun c => strIn ⟨#[c]⟩ "abcdefghijklmnopqrstuvwxyz"
  rw [h3] at a1
  have ln : biD .len [.str s] = some (.int s.length) := by
    show (if s.length ≤ LIM then _ else _) = _
    rw [if_pos hl]
  simp only [F_is_name, denF, b_is_name, c_is_name]
  simp [-d_comp, List.replicate, ln, h1, h2, c1, a1]
theorem e_are_colours {l : List Str} (h1 : 1 ≤ l.length) (h4 : l.length ≤ 4) (hn : ∀ s ∈ l, isName s = true) (hp : l.Pairwise fun a b => a.cps.toList < b.cps.toList) : F_are_colours [.tup (l.map .str), .int 4] [] = some (.ok (.bl true), []) := by
  have c1 := comp_eq0 (G := mkG [F_is_name] []) (elt := .call 0 (.cons (.v 2) .nil) []) (t := .nm 2) (it := .sq (.v 0)) (own := [2]) (enc := D.str) (e := [some (.tup (l.map .str)), some (.int 4), none, none]) (xs := l)
    (fun q => [some (.tup (l.map .str)), some (.int 4), some (.str q), none]) (fun _ => .bl true) (by simp) (fun q hq => by simp) (fun q hq => by simp [e_is_name (hn q hq)]) (fun q hq => by simp)
  have c2 := comp_eq0 (G := mkG [F_is_name] []) (elt := .cmp .Lt (.v 2) (.v 3)) (t := .tp [(.nm 2), (.nm 3)]) (it := .zp (.v 0) (.sl (.v 0) (.so (.c (.int 1))) .no)) (own := [2, 3]) (enc := fun p : Str × Str => .tup [.str p.1, .str p.2]) (e := [some (.tup (l.map .str)), some (.int 4), none, none]) (xs := l.zip (l.drop 1))
    (fun q => [some (.tup (l.map .str)), some (.int 4), some (.str q.1), some (.str q.2)]) (fun q => .bl (decide (q.1.cps.toList < q.2.cps.toList))) (by simp [-List.drop_one, zipF_map]) (fun q hq => by simp) (fun q hq => by simp [-Array.lt_toList]) (fun q hq => by simp)
  have a1 := all_m l (fun _ => true)
  have a2 := all_m (l.zip (l.drop 1)) (fun q => decide (q.1.cps.toList < q.2.cps.toList))
  rw [show l.all (fun _ => true) = true from List.all_eq_true.mpr fun _ _ => rfl] at a1
  rw [show (l.zip (l.drop 1)).all (fun q => decide (q.1.cps.toList < q.2.cps.toList)) = true from List.all_eq_true.mpr fun p hp2 => decide_eq_true (pw_zip hp p hp2)] at a2
  have l1 : (1 : Int) ≤ l.length := by omega
  have l2 : (l.length : Int) ≤ 4 := by omega
  simp only [F_are_colours, denF, b_are_colours, c_are_colours]
  simp [-d_comp, -List.drop_one, -Array.lt_toList, List.replicate, l1, l2, c1, c2, a1, a2]
theorem e_are_takes {cs l : List Str} (h1 : 1 ≤ l.length) (h4 : l.length ≤ 4) (hn : ∀ s ∈ l, isName s = true) (hp : l.Pairwise fun a b => a.cps.toList < b.cps.toList) (hs : ∀ s ∈ l, s ∈ cs) (hk : ∀ s ∈ cs, PyData.strOk s = true) : F_are_takes [.tup (cs.map .str), .tup (l.map .str)] [] = some (.ok (.bl true), []) := by
  have c1 := comp_eq0 (G := mkG [F_are_colours] [.int 4]) (elt := .cmp .In (.v 2) (.v 0)) (t := .nm 2) (it := .sq (.v 1)) (own := [2]) (enc := D.str) (e := [some (.tup (cs.map .str)), some (.tup (l.map .str)), none]) (xs := l)
    (fun q => [some (.tup (cs.map .str)), some (.tup (l.map .str)), some (.str q)]) (fun _ => .bl true) (by simp) (fun q hq => by simp) (fun q hq => by
      have i := in_strs hk (hk q (hs q hq))
      rw [decide_eq_true (hs q hq)] at i
      simp [i]) (fun q hq => by simp)
  have a1 := all_m l (fun _ => true)
  rw [show l.all (fun _ => true) = true from List.all_eq_true.mpr fun _ _ => rfl] at a1
  simp only [F_are_takes, denF, b_are_takes, c_are_takes]
  simp [-d_comp, List.replicate, e_are_colours h1 h4 hn hp, c1, a1]
def L4 : List Str := ["blue", "gold", "red", "teal"]
def N5 : List Str := ["ash", "bay", "cot", "den", "elm"]
theorem L4_ok : L4.all (fun s => isName s && PyData.strOk s) = true := by decide +kernel
theorem N5_ok : N5.all (fun s => isName s && (PyData.strOk s && decide (s ≠ ""))) = true := by decide +kernel
theorem L4_pw : L4.Pairwise fun a b => a.cps.toList < b.cps.toList := by decide +kernel
theorem N5_pw : N5.Pairwise fun a b => a.cps.toList < b.cps.toList := by decide +kernel
theorem L4_mem {s : Str} (h : s ∈ L4) : isName s = true ∧ PyData.strOk s = true := by
  have := List.all_eq_true.mp L4_ok s h
  simpa using this
theorem N5_mem {s : Str} (h : s ∈ N5) : isName s = true ∧ PyData.strOk s = true ∧ s ≠ "" := by
  have := List.all_eq_true.mp N5_ok s h
  simpa using this
end K02

set_option maxRecDepth 100000
set_option maxHeartbeats 4000000
/-! EH: a drawn house. -/
namespace K02
open PySem PySem.Spec PyProof.Rows L2 Rf
@[simp] theorem back_n (e0 e : Envd) : backE e0 e [] = e := rfl
@[simp] theorem back_c (v : Nat) (vs : List Nat) (e0 e : Envd) : backE e0 e (v :: vs) = (backE e0 e vs).set v (getV e0 v) := rfl
noncomputable abbrev GH : Gam := mkG [F_xlaw_pick, F_xlaw_one, F_xlaw_made, F_xlaw_some, F_xlaw_filled] []
theorem rem_M {K rest : List M} {m : M} (h : m ∉ K) : remD (.lst ((K ++ m :: rest).map dM)) (dM m) = some (.lst ((K ++ rest).map dM)) := by
  have o : okIn ((K ++ m :: rest).map dM) (dM m) = true := okIn_of (fun x hx => by
    obtain ⟨y, _, rfl⟩ := List.mem_map.mp hx
    simp) (by simp) (by simp)
  have f : ∀ K : List M, m ∉ K → ((K ++ m :: rest).map dM).findIdx? (fun z => eqD z (dM m)) = some K.length := by
    intro K
    induction K with
    | nil => intro _; rw [List.nil_append, List.map_cons, List.findIdx?_cons, eq_dM]; simp
    | cons a K ih =>
      intro hK
      rw [List.cons_append, List.map_cons, List.findIdx?_cons, eq_dM, decide_eq_false (fun z => hK (by rw [z]; exact List.mem_cons_self)), ih (fun z => hK (List.mem_cons_of_mem _ z))]
      rfl
  show (if okIn _ _ = true then _ else none) = _
  rw [if_pos o, f K h]
  have e : ((K ++ m :: rest).map dM).eraseIdx K.length = (K ++ rest).map dM := by
    rw [List.map_append, List.map_append, List.map_cons]
    have : K.length = (K.map dM).length := by rw [List.length_map]
    rw [this, List.eraseIdx_append_of_length_le (Nat.le_refl _), Nat.sub_self, List.eraseIdx_cons_zero]
  rw [Option.map_some, e]
/-- the shelves' colours drawn -/
theorem takes_go {n : Nat} {k : Dk} (hk : OkD n k) (hn : n ≤ 1000000000) (cs : List Str) (hc : cs.length ≤ 4) (a1 a2 a3 a5 a6 a7 a8 a9 a10 a11 a12 a13 a14 a15 a16 : Option D) : ∃ (ys : List Str) (k' : Dk), ys.Sublist cs ∧ OkD (n + 4) k' ∧
    denE GH (.comp (.v 16) (.nm 16) (.sq (.v 4)) (.cons (.cmp .Gt (.call 0 (.cel 0 (.cons (.c (.int 3)) .nil)) [0]) (.c (.int 0))) .nil) [16]) [some (dD k), a1, a2, a3, some (.lst (cs.map .str)), a5, a6, a7, a8, a9, a10, a11, a12, a13, a14, a15, a16] = some (.ok (.lst (ys.map .str)), [some (dD k'), a1, a2, a3, some (.lst (cs.map .str)), a5, a6, a7, a8, a9, a10, a11, a12, a13, a14, a15, a16]) := by
  obtain ⟨ys, e', g1, g2, g3⟩ := compL_inv (own := [16]) (asg := asgT (.nm 16)) (cond := denCs GH (.cons (.cmp .Gt (.call 0 (.cel 0 (.cons (.c (.int 3)) .nil)) [0]) (.c (.int 0))) .nil)) (elt := denE GH (.v 16)) (enc := D.str) (f := D.str)
    (fun c e => ∃ k x, OkD c k ∧ e = [some (dD k), a1, a2, a3, some (.lst (cs.map .str)), a5, a6, a7, a8, a9, a10, a11, a12, a13, a14, a15, x]) (n + 4) cs n [some (dD k), a1, a2, a3, some (.lst (cs.map .str)), a5, a6, a7, a8, a9, a10, a11, a12, a13, a14, a15, a16] (by omega) ⟨k, a16, hk, rfl⟩ (fun c e x hx hb hI => by
      obtain ⟨k1, y, h2, rfl⟩ := hI
      obtain ⟨r, k2, p1, p2, p3, p4⟩ := e_pick (L := 3) h2 (by omega) (by decide) (by decide)
      refine ⟨_, decide (0 < r), [some (dD k2), a1, a2, a3, some (.lst (cs.map .str)), a5, a6, a7, a8, a9, a10, a11, a12, a13, a14, a15, some (.str x)], rfl, ?_, ⟨k2, _, p4, rfl⟩, fun _ => ?_⟩
      · simp [p1]
      · simp)
  obtain ⟨k', x, h2, rfl⟩ := g3
  refine ⟨ys, k', g1, h2.mono (by omega), ?_⟩
  rw [d_comp]
  simp [cmD, g2]
theorem deal_go (ns : List Str) (at_ size : Nat) (hat : at_ < ns.length) (hns : ns.length ≤ 1000) (a1 a2 a3 a4 a5 a7 a10 a11 a13 a16 : Option D) : ∀ (rest K A : List M) (c : Nat) (k : Dk) (x12 : Option D), c + rest.length ≤ 1000000000 → OkD c k → (K ++ rest).Nodup → A.length ≤ size → A.length + rest.length ≤ 1000 →
    ∃ (K' A2 : List M) (k' : Dk) (x' : Option D), frD GH (.nm 12) [.ifs (.and (.cmp .Eq (.call 0 (.cel 0 (.cons (.bin .Sub (.bi .len (.cons (.v 8) .nil)) (.v 9)) .nil)) [0]) (.c (.int 0))) (.cmp .Lt (.bi .len (.cons (.v 15) .nil)) (.v 14))) [.app 15 (.v 12), .rem 6 (.v 12)] []] (rest.map dM) [some (dD k), a1, a2, a3, a4, a5, some (.lst ((K ++ rest).map dM)), a7, some (.lst (ns.map .str)), some (.int at_), a10, a11, x12, a13, some (.int size), some (.lst (A.map dM)), a16] = some (.ok .nx, [some (dD k'), a1, a2, a3, a4, a5, some (.lst ((K ++ K').map dM)), a7, some (.lst (ns.map .str)), some (.int at_), a10, a11, x', a13, some (.int size), some (.lst ((A ++ A2).map dM)), a16]) ∧
      (A2 ++ K').Perm rest ∧ A2.Sublist rest ∧ K'.Sublist rest ∧ (A ++ A2).length ≤ size ∧ OkD (c + rest.length) k'
  | [], K, A, c, k, x12, _, h1, _, h3, _ => ⟨[], [], k, x12, by simp, .refl _, .slnil, .slnil, by simpa using h3, h1⟩
  | m :: rest, K, A, c, k, x12, hc, h1, h2, h3, h4 => by
    rw [List.length_cons] at hc h4
    obtain ⟨r, k1, p1, p2, p3, p4⟩ := e_pick (L := (ns.length : Int) - at_) h1 (by omega) (by omega) (by omega)
    have ec : c + (m :: rest).length = c + 1 + rest.length := by rw [List.length_cons]; omega
    have hmK : m ∉ K := fun z => (List.nodup_append.mp h2).2.2 m z m List.mem_cons_self rfl
    rw [List.map_cons, f_turn, ec]
    have skip : ∃ (K' A2 : List M) (k' : Dk) (x' : Option D), frD GH (.nm 12) [.ifs (.and (.cmp .Eq (.call 0 (.cel 0 (.cons (.bin .Sub (.bi .len (.cons (.v 8) .nil)) (.v 9)) .nil)) [0]) (.c (.int 0))) (.cmp .Lt (.bi .len (.cons (.v 15) .nil)) (.v 14))) [.app 15 (.v 12), .rem 6 (.v 12)] []] (rest.map dM) [some (dD k1), a1, a2, a3, a4, a5, some (.lst ((K ++ m :: rest).map dM)), a7, some (.lst (ns.map .str)), some (.int at_), a10, a11, some (dM m), a13, some (.int size), some (.lst (A.map dM)), a16] = some (.ok .nx, [some (dD k'), a1, a2, a3, a4, a5, some (.lst ((K ++ K').map dM)), a7, some (.lst (ns.map .str)), some (.int at_), a10, a11, x', a13, some (.int size), some (.lst ((A ++ A2).map dM)), a16]) ∧
        (A2 ++ K').Perm (m :: rest) ∧ A2.Sublist (m :: rest) ∧ K'.Sublist (m :: rest) ∧ (A ++ A2).length ≤ size ∧ OkD (c + 1 + rest.length) k' := by
      have e : K ++ m :: rest = (K ++ [m]) ++ rest := by simp
      rw [e] at h2 ⊢
      obtain ⟨K', A2, k', x', g1, g2, g3, g4, g5, g6⟩ := deal_go ns at_ size hat hns a1 a2 a3 a4 a5 a7 a10 a11 a13 a16 rest (K ++ [m]) A (c + 1) k1 (some (dM m)) (by omega) p4 h2 h3 (by omega)
      refine ⟨m :: K', A2, k', x', ?_, List.perm_middle.trans (g2.cons m), .cons _ g3, g4.cons_cons _, g5, g6⟩
      rw [g1]
      simp
    by_cases hr : r = 0
    · by_cases hs : A.length < size
      · have nd : (K ++ rest).Nodup := h2.sublist ((List.Sublist.refl K).append (List.sublist_cons_self m rest))
        obtain ⟨K', A2, k', x', g1, g2, g3, g4, g5, g6⟩ := deal_go ns at_ size hat hns a1 a2 a3 a4 a5 a7 a10 a11 a13 a16 rest K (A ++ [m]) (c + 1) k1 (some (dM m)) (by omega) p4 nd (by rw [List.length_append]; simp only [List.length_cons, List.length_nil]; omega) (by rw [List.length_append]; simp only [List.length_cons, List.length_nil]; omega)
        rw [List.append_assoc] at g1 g5
        refine ⟨K', m :: A2, k', x', ?_, g2.cons m, g3.cons_cons _, .cons _ g4, g5, g6⟩
        rw [show A ++ m :: A2 = A ++ ([m] ++ A2) from rfl, ← g1]
        have hle : A.length < LIM := by rw [lim_num]; omega
        have rm := rem_M (K := K) (rest := rest) hmK
        simp only [List.map_append, List.map_cons, List.map_nil] at rm
        subst hr
        simp [p1, hs, lstAt, hle, rm]
      · obtain ⟨K', A2, k', x', g1, g2⟩ := skip
        refine ⟨K', A2, k', x', ?_, g2⟩
        rw [← g1]
        subst hr
        simp [p1, hs]
    · obtain ⟨K', A2, k', x', g1, g2⟩ := skip
      refine ⟨K', A2, k', x', ?_, g2⟩
      rw [← g1]
      simp [p1, hr]
structure ShOk (D0 : List M) (cs : List Str) (wide : Nat) (s : Sh) : Prop where
  l1 : 1 ≤ s.sl.length
  l2 : s.sl.length ≤ wide
  mrk : (mks s.sl).Sublist D0
  tk : s.tk.Sublist cs
  t0 : s.tk ≠ []
theorem okEq_strs {l : List Str} (h : ∀ s ∈ l, PyData.strOk s = true) : okEq (.lst (l.map D.str)) (.lst []) = true := by
  refine okEq_of ?_ rfl (.inr (by simp))
  rw [lay_l, layL_all, List.all_eq_true]
  intro d hd
  obtain ⟨s, hs, rfl⟩ := List.mem_map.mp hd
  exact h s hs
abbrev shB : List Sm := [.set 11 (.comp (.v 16) (.nm 16) (.sq (.v 4)) (.cons (.cmp .Gt (.call 0 (.cel 0 (.cons (.c (.int 3)) .nil)) [0]) (.c (.int 0))) .nil) [16]), .set 11 (.ite (.cmp .NotEq (.v 11) (.lst .nil)) (.v 11) (.sl (.v 4) .no (.so (.c (.int 1))))), .par [(14, false, (.bin .Add (.c (.int 1)) (.call 0 (.cel 0 (.cons (.v 2) .nil)) [0]))), (15, true, (.lst .nil))], .fr (.nm 12) (.sq (.bi .list (.cons (.v 6) .nil))) [.ifs (.and (.cmp .Eq (.call 0 (.cel 0 (.cons (.bin .Sub (.bi .len (.cons (.v 8) .nil)) (.v 9)) .nil)) [0]) (.c (.int 0))) (.cmp .Lt (.bi .len (.cons (.v 15) .nil)) (.v 14))) [.app 15 (.v 12), .rem 6 (.v 12)] []], .app 7 (.tup (.cons (.v 10) (.cons (.bi .tuple (.cons (.v 11) .nil)) (.cons (.call 4 (.cel 0 (.cons (.v 14) (.cons (.v 15) .nil))) [0]) .nil))))]
theorem shelves_go {D0 : List M} {cs : List Str} {wide : Nat} (ns : List Str) (hns : ns.length ≤ 1000) (hD : D0.Nodup) (hDl : D0.length ≤ 30) (hc0 : cs ≠ []) (hc4 : cs.length ≤ 4) (hcs : ∀ s ∈ cs, PyData.strOk s = true) (hw : 1 ≤ wide) (hw2 : wide ≤ 20) (a1 a3 a5 : Option D) :
    ∀ (ps : List (Str × Nat)) (Ss : List Sh) (Dl Z : List M) (c : Nat) (k : Dk) (x9 x10 x11 x12 x13 x14 x15 x16 : Option D), (∀ p ∈ ps, p.2 < ns.length) → c + 200 * ps.length ≤ 10000000 → OkD c k → ((Ss.flatMap fun s => mks s.sl) ++ (Dl ++ Z)).Perm D0 → Dl.Sublist D0 → Ss.length + ps.length ≤ 1000 →
    ∃ (S2 : List Sh) (Dl' Z' : List M) (k' : Dk) (y9 y10 y11 y12 y13 y14 y15 y16 : Option D),
      frD GH (.tp [(.nm 9), (.nm 10)]) shB (ps.map fun p => .tup [.int p.2, .str p.1]) [some (dD k), a1, some (.int wide), a3, some (.lst (cs.map .str)), a5, some (.lst (Dl.map dM)), some (.lst (Ss.map dSh)), some (.lst (ns.map .str)), x9, x10, x11, x12, x13, x14, x15, x16] = some (.ok .nx, [some (dD k'), a1, some (.int wide), a3, some (.lst (cs.map .str)), a5, some (.lst (Dl'.map dM)), some (.lst ((Ss ++ S2).map dSh)), some (.lst (ns.map .str)), y9, y10, y11, y12, y13, y14, y15, y16]) ∧
      S2.map (·.nm) = ps.map (·.1) ∧ (∀ s ∈ S2, ShOk D0 cs wide s) ∧ (((Ss ++ S2).flatMap fun s => mks s.sl) ++ (Dl' ++ Z')).Perm D0 ∧ OkD (c + 200 * ps.length) k'
  | [], Ss, Dl, Z, c, k, x9, x10, x11, x12, x13, x14, x15, x16, _, _, h1, h2, _, _ => ⟨[], Dl, Z, k, x9, x10, x11, x12, x13, x14, x15, x16, by simp, rfl, (fun _ z => nomatch z), by simpa using h2, h1⟩
  | p :: ps, Ss, Dl, Z, c, k, x9, x10, x11, x12, x13, x14, x15, x16, hp, hc, h1, h2, h3, h4 => by
    obtain ⟨nm, at_⟩ := p
    have hat := hp (nm, at_) List.mem_cons_self
    simp only at hat
    rw [List.length_cons] at hc h4
    have ec : c + 200 * ((nm, at_) :: ps).length = c + 200 + 200 * ps.length := by rw [List.length_cons]; omega
    have dl20 : Dl.length ≤ 30 := Nat.le_trans h3.length_le hDl
    have dnd : Dl.Nodup := hD.sublist h3
    rw [List.map_cons, f_turn, ec]
    -- colours
    obtain ⟨ys, k1, t1, t2, t3⟩ := takes_go h1 (by omega) cs hc4 a1 (some (.int wide)) a3 a5 (some (.lst (Dl.map dM))) (some (.lst (Ss.map dSh))) (some (.lst (ns.map .str))) (some (.int at_)) (some (.str nm)) x11 x12 x13 x14 x15 x16
    obtain ⟨tk, htk, tks, tk0⟩ : ∃ tk : List Str, tk = (if ys = [] then cs.take 1 else ys) ∧ tk.Sublist cs ∧ tk ≠ [] := by
      refine ⟨_, rfl, ?_, ?_⟩
      · split
        · exact List.take_sublist 1 cs
        · exact t1
      · split
        · cases cs with
          | nil => exact absurd rfl hc0
          | cons a l => simp
        · assumption
    -- size
    obtain ⟨r, k2, p1, p2, p3, p4⟩ := e_pick (L := wide) t2 (by omega) (by omega) (by omega)
    obtain ⟨sz, hsz⟩ : ∃ sz : Nat, (sz : Int) = 1 + r := ⟨(1 + r).toNat, by omega⟩
    -- marks
    obtain ⟨K', A2, k3, y12, g1, g2, g3, g4, g5, g6⟩ := deal_go ns at_ sz hat hns a1 (some (.int wide)) a3 (some (.lst (cs.map .str))) a5 (some (.lst (Ss.map dSh))) (some (.str nm)) (some (.lst (tk.map .str))) x13 x16 Dl [] [] (c + 4 + 1) k2 x12 (by omega) p4 (by simpa using dnd) (by simp) (by simp only [List.length_nil]; omega)
    rw [List.nil_append] at g1 g5
    rw [List.nil_append, List.nil_append, List.map_nil] at g1
    have a20 : A2.length ≤ 20 := by omega
    -- slots
    obtain ⟨sl, k4, f1, f2, f3, f4⟩ := e_filled (size := sz) (ms := A2) g6 (by omega) (by omega) (by omega) a20
    obtain ⟨Rm, hRm⟩ := f3.exists_perm_append
    have fin : ((Ss ++ [(⟨nm, tk, sl⟩ : Sh)]).flatMap (fun s => mks s.sl) ++ (K' ++ (Rm ++ Z))).Perm D0 := by
      rw [List.flatMap_append, List.flatMap_cons, List.flatMap_nil, List.append_nil]
      refine List.Perm.trans ?_ h2
      rw [List.append_assoc]
      refine List.Perm.append_left _ ?_
      have q1 : (mks sl ++ (K' ++ (Rm ++ Z))).Perm ((mks sl ++ Rm) ++ (K' ++ Z)) := by
        rw [List.append_assoc]
        refine List.Perm.append_left _ ?_
        rw [← List.append_assoc, ← List.append_assoc]
        exact List.perm_append_comm.append_right _
      refine q1.trans (((hRm.symm).append_right _).trans ?_)
      rw [← List.append_assoc]
      exact g2.append_right _
    obtain ⟨S2, Dl', Z', k', y9, y10, y11, z12, y13, y14, y15, y16, w1, w2, w3, w4, w5⟩ := shelves_go ns hns hD hDl hc0 hc4 hcs hw hw2 a1 a3 a5 ps (Ss ++ [⟨nm, tk, sl⟩]) K' (Rm ++ Z) (c + 200) k4 (some (.int at_)) (some (.str nm)) (some (.lst (tk.map .str))) y12 x13 (some (.int sz)) (some (.lst (A2.map dM))) x16 (fun q hq => hp q (List.mem_cons_of_mem _ hq)) (by omega) (f4.mono (by omega)) fin (g4.trans h3) (by rw [List.length_append]; simp only [List.length_cons, List.length_nil]; omega)
    rw [List.append_assoc] at w1 w4
    refine ⟨⟨nm, tk, sl⟩ :: S2, Dl', Z', k', y9, y10, y11, z12, y13, y14, y15, y16, ?_, by rw [List.map_cons, List.map_cons, w2], ?_, w4, w5⟩
    · rw [show Ss ++ (⟨nm, tk, sl⟩ : Sh) :: S2 = Ss ++ ([(⟨nm, tk, sl⟩ : Sh)] ++ S2) from rfl, ← w1]
      have hle : Ss.length < LIM := by rw [lim_num]; omega
      have oy := okEq_strs (l := ys) fun s hs => hcs s (t1.subset hs)
      have ey := eqD_nil D.str ys
      by_cases hy : ys = []
      · rw [if_pos hy] at htk
        subst htk
        subst hy
        simp only [List.map_nil] at t3 oy
        simp only [List.map_take] at g1
        have ez : eqD (.lst []) (.lst []) = true := by simp
        simp [-d_comp, -eq_ll, t3, oy, ez, p1, lstAt, g1, f1, hle, hsz.symm, dSh]
      · rw [if_neg hy] at htk
        subst htk
        have ey2 : eqD (.lst (tk.map D.str)) (.lst []) = false := by
          rw [ey]
          cases tk with
          | nil => exact absurd rfl hy
          | cons _ _ => rfl
        simp [-d_comp, -eq_ll, t3, oy, ey2, p1, lstAt, g1, f1, hle, hsz.symm, dSh]
    · intro s hs
      rcases List.mem_cons.mp hs with rfl | hs
      · exact ⟨by show 1 ≤ sl.length; omega, by show sl.length ≤ wide; omega, f3.trans (g3.trans h3), tks, tk0⟩
      · exact w3 s hs
end K02

set_option maxRecDepth 100000
set_option maxHeartbeats 4000000
/-! EI: a drawn house is a house. -/
namespace K02
open PySem PySem.Spec PyProof.Rows L2 Rf
theorem red_rise {a b w : Int} (hw : 0 < w) (h : a < b) : lt (red a w) (red b w) = true := by
  rw [red_lt_right hw, decide_eq_true_iff]
  obtain ⟨e1, e2⟩ := red_mul (t := b) (b := w)
  have g := gcd_pos (t := b) hw
  apply Int.lt_of_mul_lt_mul_right (a := Int.gcd b w) _ (by omega)
  rw [Int.mul_assoc, e2, Int.mul_right_comm, e1]
  exact Int.mul_lt_mul_of_pos_right h hw
structure Drawn (most wide marked : Nat) (h : Ho) : Prop where
  vk : Vk h
  low : ∀ x ∈ allM h, x.2 ≤ 1000000000000000000
  few : (own h).length ≤ marked
  ps : h.ps ≤ 3
  wide : ∀ s ∈ h.sh, s.sl.length ≤ wide
  cols : ∃ j, j ≤ 3 ∧ h.cs = L4.take (1 + j)
  nms : ∃ j, j ≤ most ∧ h.sh.map (·.nm) = N5.take j
  tks : ∀ s ∈ h.sh, s.tk.Sublist h.cs ∧ s.tk ≠ []
theorem drawn_of {most wide marked : Nat} {D0 : List M} {S2 : List Sh} {Dl Z : List M} {ps : Int} {j1 j5 : Nat} (hm5 : most ≤ 5) (hw2 : wide ≤ 20) (hmk : marked ≤ 30)
    (d1 : ∀ m ∈ D0, OkM m ∧ m.2 ≤ 1000000000000000000) (d2 : Asc D0) (d3 : D0.length ≤ marked) (hj1 : j1 ≤ 3) (hj5 : j5 ≤ most) (p0 : 0 ≤ ps) (p3 : ps ≤ 3)
    (w2 : S2.map (·.nm) = N5.take j5) (w3 : ∀ s ∈ S2, ShOk D0 (L4.take (1 + j1)) wide s) (w4 : ((S2.flatMap fun s => mks s.sl) ++ (Dl ++ Z)).Perm D0) : Drawn most wide marked ⟨S2, ps, L4.take (1 + j1)⟩ := by
  have nd0 : D0.Nodup := List.nodup_iff_pairwise_ne.mpr (d2.imp fun {a b} h e => by rw [e, lt_irr] at h; cases h)
  have ndo : (own ⟨S2, ps, L4.take (1 + j1)⟩).Nodup := (List.nodup_append.mp (w4.nodup_iff.mpr nd0)).1
  have len : (own ⟨S2, ps, L4.take (1 + j1)⟩).length ≤ D0.length := by
    have := w4.length_eq
    rw [List.length_append] at this
    show (S2.flatMap fun s => mks s.sl).length ≤ _
    omega
  have cl : (L4.take (1 + j1)).length = 1 + j1 := by rw [List.length_take]; show min (1 + j1) 4 = _; omega
  have cm : ∀ s ∈ L4.take (1 + j1), s ∈ L4 := fun s hs => List.mem_of_mem_take hs
  have nmem : ∀ s ∈ S2, s.nm ∈ N5 := fun s hs => List.mem_of_mem_take (i := j5) (by rw [← w2]; exact List.mem_map.mpr ⟨s, hs, rfl⟩)
  have vd : Vd ⟨S2, ps, L4.take (1 + j1)⟩ := {
    n5 := by
      have := congrArg List.length w2
      rw [List.length_map, List.length_take] at this
      show S2.length ≤ 5
      omega
    ps0 := p0
    ps1 := by show ps ≤ 20; omega
    cs0 := fun z => by
      have := congrArg List.length z
      rw [cl] at this
      simp at this
    cs4 := by show (L4.take (1 + j1)).length ≤ 4; rw [cl]; omega
    csk := fun c hc => (L4_mem (cm c hc)).2
    nm := by
      have : (S2.map (·.nm)).Pairwise fun a b => a.cps.toList < b.cps.toList := by rw [w2]; exact N5_pw.sublist (List.take_sublist _ _)
      exact (List.pairwise_map (f := fun s : Sh => s.nm) (R := fun a b : Str => a.cps.toList < b.cps.toList)).mp this
    nmk := fun s hs => (N5_mem (nmem s hs)).2
    tkk := fun s hs => ⟨Nat.le_trans (w3 s hs).tk.length_le (by rw [cl]; omega), fun c hc => (L4_mem (cm c ((w3 s hs).tk.subset hc))).2⟩
    s1 := fun s hs => ⟨(w3 s hs).l1, Nat.le_trans (w3 s hs).l2 hw2⟩
    mrk := fun s hs m hm => (d1 m ((w3 s hs).mrk.subset hm)).1
    asc := fun s hs => d2.sublist (w3 s hs).mrk
    nd := ndo
    few := by omega }
  exact {
    vk := { vd with
      fcs := e_are_colours (by rw [cl]; omega) (by rw [cl]; omega) (fun s hs => (L4_mem (cm s hs)).1) (L4_pw.sublist (List.take_sublist _ _))
      fnm := fun s hs => e_is_name (N5_mem (nmem s hs)).1
      ftk := fun s hs => by
        have o := w3 s hs
        have tl := o.tk.length_le
        rw [cl] at tl
        exact e_are_takes (List.length_pos_iff.mpr o.t0) (by omega) (fun c hc => (L4_mem (cm c (o.tk.subset hc))).1) (L4_pw.sublist (o.tk.trans (List.take_sublist _ _))) (fun c hc => o.tk.subset hc) (fun c hc => (L4_mem (cm c hc)).2) }
    low := fun x hx => by
      obtain ⟨s, hs, hm⟩ := allM_mem.mp hx
      exact (d1 x ((w3 s hs).mrk.subset hm)).2
    few := by omega
    ps := p3
    wide := fun s hs => (w3 s hs).l2
    cols := ⟨j1, hj1, rfl⟩
    nms := ⟨j5, hj5, w2⟩
    tks := fun s hs => ⟨(w3 s hs).tk, (w3 s hs).t0⟩ }
theorem mem3 {α : Type} {d a b c : α} (h : d ∈ [a, b, c]) : d = a ∨ d = b ∨ d = c := by simpa using h
theorem e_house {n most wide marked : Nat} {k : Dk} (hk : OkD n k) (hn : n ≤ 1000000) (hm5 : most ≤ 5) (hw : 1 ≤ wide) (hw2 : wide ≤ 20) (hmk : marked ≤ 30) : ∃ (h : Ho) (k' : Dk), F_xlaw_house [.int most, .int wide, .int marked] [dD k] = some (.ok (dH h), [dD k']) ∧ Drawn most wide marked h ∧ OkD (n + 2000) k' := by
  obtain ⟨d, k1, m1, q1, o1⟩ := e_one (xs := [.int 1, .int 2, .int 4]) hk (by omega) (by simp) (by simp)
  obtain ⟨l, rfl, l1, l4⟩ : ∃ l : Int, d = .int l ∧ 1 ≤ l ∧ l ≤ 4 := by
    rcases mem3 m1 with rfl | rfl | rfl
    · exact ⟨1, rfl, by decide, by decide⟩
    · exact ⟨2, rfl, by decide, by decide⟩
    · exact ⟨4, rfl, by decide, by decide⟩
  obtain ⟨r1, k2, q2, b1, b2, o2⟩ := e_pick (L := l) o1 (by omega) (by omega) (by omega)
  obtain ⟨j1, rfl⟩ := Int.eq_ofNat_of_zero_le b1
  obtain ⟨d, k3, m3, q3, o3⟩ := e_one (xs := [.int 97, .int 97, .int 1000000000000000000]) o2 (by omega) (by simp) (by simp)
  obtain ⟨w, rfl, w1, w18⟩ : ∃ w : Int, d = .int w ∧ 97 ≤ w ∧ w ≤ 1000000000000000000 := by
    rcases mem3 m3 with rfl | rfl | rfl
    · exact ⟨97, rfl, by decide, by decide⟩
    · exact ⟨97, rfl, by decide, by decide⟩
    · exact ⟨1000000000000000000, rfl, by decide, by decide⟩
  obtain ⟨r3, k4, q4, b3, b4, o4⟩ := e_pick (L := (marked : Int) + 1) o3 (by omega) (by omega) (by omega)
  obtain ⟨j3, rfl⟩ := Int.eq_ofNat_of_zero_le b3
  obtain ⟨tops, k5, q5, t1, t2, t3, o5⟩ := e_some (many := j3) (low := 1) (high := w - 1) o4 (by omega) (by omega) (by omega) (by omega)
  obtain ⟨r5, k6, q6, b5, b6, o6⟩ := e_pick (L := (most : Int) + 1) (o5.mono (m := n + 4 + 60) (by omega)) (by omega) (by omega) (by omega)
  obtain ⟨j5, rfl⟩ := Int.eq_ofNat_of_zero_le b5
  obtain ⟨D0, hD0⟩ : ∃ D0, D0 = tops.map fun t => red t w := ⟨_, rfl⟩
  have d1 : ∀ m ∈ D0, OkM m ∧ m.2 ≤ 1000000000000000000 := fun m hm => by
    rw [hD0] at hm
    obtain ⟨t, ht, rfl⟩ := List.mem_map.mp hm
    have := t2 t ht
    have p40 : (1000000000000000000 : Int) < 10 ^ 40 := by decide
    have := red_le (t := t) (b := w) (by omega)
    exact ⟨red_ok (by omega) (by omega) (by omega), by omega⟩
  have d2 : Asc D0 := by
    rw [hD0]
    exact List.pairwise_map.mpr (t1.imp fun {a b} h => red_rise (by omega) h)
  have d3 : D0.length ≤ marked := by rw [hD0, List.length_map]; omega
  have nd0 : D0.Nodup := List.nodup_iff_pairwise_ne.mpr (d2.imp fun {a b} h e => by rw [e, lt_irr] at h; cases h)
  have cl : (L4.take (1 + j1)).length = 1 + j1 := by rw [List.length_take]; show min (1 + j1) 4 = _; omega
  have nl : (N5.take j5).length = j5 := by rw [List.length_take]; show min j5 5 = _; omega
  obtain ⟨S2, Dl, Z, k7, y9, y10, y11, y12, y13, y14, y15, y16, g1, g2, g3, g4, g5⟩ := shelves_go (D0 := D0) (cs := L4.take (1 + j1)) (wide := wide) (N5.take j5) (by omega) nd0 (by omega) (fun z => by
      have := congrArg List.length z
      rw [cl] at this
      simp at this) (by omega) (fun s hs => (L4_mem (List.mem_of_mem_take hs)).2) hw hw2 (some (.int most)) (some (.int marked)) (some (.int w)) ((N5.take j5).zipIdx 0) [] D0 [] (n + 4 + 60 + 1) k6 none none none none none none none none (fun p hp => by
      have := (List.mem_zipIdx (x := p.1) (i := p.2) hp).2.1
      omega) (by rw [List.length_zipIdx]; omega) o6 (by simp) (.refl _) (by rw [List.length_zipIdx]; simp only [List.length_nil]; omega)
  rw [List.length_zipIdx, nl] at g5
  obtain ⟨d, k8, m8, q8, o8⟩ := e_one (xs := [.int 0, .int 0, .int 1, .int 3]) g5 (by omega) (by simp) (by simp)
  obtain ⟨ps, rfl, p0, p3⟩ : ∃ ps : Int, d = .int ps ∧ 0 ≤ ps ∧ ps ≤ 3 := by
    have : d = .int 0 ∨ d = .int 1 ∨ d = .int 3 := by simpa using m8
    rcases this with rfl | rfl | rfl
    · exact ⟨0, rfl, by decide, by decide⟩
    · exact ⟨1, rfl, by decide, by decide⟩
    · exact ⟨3, rfl, by decide, by decide⟩
  rw [List.nil_append] at g4
  have g2' : S2.map (·.nm) = N5.take j5 := by
    rw [g2]
    apply List.ext_getElem?
    intro i
    rw [List.getElem?_map, List.getElem?_zipIdx]
    cases (N5.take j5)[i]? <;> rfl
  refine ⟨⟨S2, ps, L4.take (1 + j1)⟩, k8, ?_, drawn_of hm5 hw2 hmk d1 d2 d3 (by omega) (by omega) p0 p3 g2' g3 g4, o8.mono (by omega)⟩
  have c4 : cutD [D.str "blue", D.str "gold", D.str "red", D.str "teal"] none (some (1 + (j1 : Int))) = (L4.take (1 + j1)).map .str := by
    have e : (1 : Int) + j1 = ((1 + j1 : Nat) : Int) := by omega
    rw [e, cut_to, List.map_take]
    rfl
  have c5 : cutD [D.str "ash", D.str "bay", D.str "cot", D.str "den", D.str "elm"] none (some (j5 : Int)) = (N5.take j5).map .str := by
    rw [cut_to, List.map_take]
    rfl
  have cm := comp_eqI (G := GH) (elt := .call 2 (.cons (.v 13) (.cons (.v 5) .nil)) []) (t := .nm 13) (it := .sq (.call 3 (.cel 0 (.cons (.c (.int 1)) (.cons (.bin .Sub (.v 5) (.c (.int 1))) (.cons (.call 0 (.cel 0 (.cons (.bin .Add (.v 3) (.c (.int 1))) .nil)) [0]) .nil)))) [0])) (cs := .nil) (own := [13]) (enc := D.int) (e := [some (dD k3), some (.int most), some (.int wide), some (.int marked), some (.lst ((L4.take (1 + j1)).map .str)), some (.int w), none, none, none, none, none, none, none, none, none, none, none]) (e1 := [some (dD k5), some (.int most), some (.int wide), some (.int marked), some (.lst ((L4.take (1 + j1)).map .str)), some (.int w), none, none, none, none, none, none, none, none, none, none, none]) (xs := tops)
    (fun t => [some (dD k5), some (.int most), some (.int wide), some (.int marked), some (.lst ((L4.take (1 + j1)).map .str)), some (.int w), none, none, none, none, none, none, none, some (.int t), none, none, none]) (fun _ => true) (fun t => dM (red t w)) (by simp [q4, q5]) (fun t ht => by simp) (fun t ht => by simp) (fun t ht _ => by
      have := t2 t ht
      simp [e_xmade (a := t) (b := w) (by omega) (Sz.num (by omega) (by omega))]) (fun t ht => by simp)
  rw [List.filter_eq_self.mpr (fun _ _ => rfl)] at cm
  have em : tops.map (fun t => dM (red t w)) = D0.map dM := by rw [hD0, List.map_map]; rfl
  rw [em] at cm
  have en := enumF_eq D.str 0 (N5.take j5)
  rw [List.nil_append, List.map_nil] at g1
  simp only [F_xlaw_house, denF, b_xlaw_house, c_xlaw_house]
  simp [-d_comp, -List.map_take, List.replicate, q1, q2, c4, q3, cm, q6, c5, en, g1, q8]
  simp [dH]
end K02

set_option maxRecDepth 100000
set_option maxHeartbeats 4000000
/-! EO: what each colour is sure of. -/
namespace K02
open PySem PySem.Spec PyProof.Rows L2 Rf
def colL (h : Ho) : List (Str × Int) := h.cs.map fun c => (c, colN h c)
def dC (r : Str × Int) : D := .tup [.str r.1, .int r.2]
@[simp] theorem ixH0 (h : Ho) : ixD (dH h) (.int 0) = some (.tup (h.sh.map dSh)) := by simp [dH]
@[simp] theorem ixH1 (h : Ho) : ixD (dH h) (.int 1) = some (.int h.ps) := by simp [dH]
@[simp] theorem ixH2 (h : Ho) : ixD (dH h) (.int 2) = some (.tup (h.cs.map .str)) := by simp [dH]
end K02

set_option maxRecDepth 100000
set_option maxHeartbeats 4000000
/-! EP: what can be spared. -/
namespace K02
open PySem PySem.Spec PyProof.Rows L2 Rf
abbrev bP1 : List Sm := [.ifs (.and (.cmp .Is (.v 6) (.c (.non))) (.cmp .Gt (.bi .len (.cons (.v 4) .nil)) (.c (.int 1)))) [.ifs (.cmp .GtE (.call 1 (.cons (.call 2 (.cons (.v 0) (.cons (.v 2) (.cons (.bin .Add (.sl (.v 4) .no (.so (.v 5))) (.sl (.v 4) (.so (.bin .Add (.v 5) (.c (.int 1)))) .no)) .nil))) []) .nil) []) (.call 1 (.cons (.v 0) .nil) [])) [.app 1 (.tup (.cons (.v 2) (.cons (.v 5) .nil)))] []] []]
theorem sp_len (h : Ho) (s : Sh) : (spSh h s).length ≤ s.sl.length := by
  unfold spSh
  rw [List.length_map]
  exact Nat.le_trans (List.length_filter_le _ _) (by rw [List.length_zipIdx]; exact Nat.le_refl _)
end K02

set_option maxRecDepth 100000
set_option maxHeartbeats 4000000
/-! EQ22: the defs of the law k22. -/
namespace K02
open PySem PySem.Spec PyProof.Rows L2 Rf
theorem xw_wh (G : Gam) : ∀ (n f : Nat), whD G (.cmp .Gt (.v 0) (.c (.int 0))) [.par [(1, false, (.bin .Add (.v 1) (.c (.int 1)))), (0, false, (.bin .FloorDiv (.bin .Sub (.v 0) (.c (.int 1))) (.c (.int 2))))]] [some (.int n), some (.int f)] = some (.ok .nx, [some (.int 0), some (.int ((f + worth n : Nat) : Int))]) := by
  intro n
  induction n using Nat.strongRecOn with
  | _ n ih =>
    intro f
    rw [whD_turn]
    by_cases h : n = 0
    · subst h
      simp [worth_0]
    · have e : (n : Int) - 1 = ((n - 1 : Nat) : Int) := by omega
      have e2 : ((n - 1 : Nat) : Int) / 2 = (((n - 1) / 2 : Nat) : Int) := by omega
      have ih := ih ((n - 1) / 2) (by omega) (f + 1)
      have hp : 0 < n := by omega
      have e3 : f + 1 + worth ((n - 1) / 2) = f + worth n := by rw [worth_pos hp]; omega
      have e4 : ((f + 1 : Nat) : Int) = (f : Int) + 1 := by omega
      have e5 : Nat.log2 2 < 9000 := by decide
      rw [e3, e4] at ih
      simp [hp, e, e5]
      rw [e2, ih]
      simp
theorem e_xw (n : Nat) : F_xlaw_w [.int n] [] = some (.ok (.int (worth n)), []) := by
  have w := xw_wh (mkG [] []) n 0
  simp only [Nat.zero_add] at w
  simp [F_xlaw_w, denF, b_xlaw_w, c_xlaw_w, List.replicate]
  have w' : whD (mkG [] []) (.cmp .Gt (.v 0) (.c (.int 0))) [.par [(1, false, (.bin .Add (.v 1) (.c (.int 1)))), (0, false, (.bin .FloorDiv (.bin .Sub (.v 0) (.c (.int 1))) (.c (.int 2))))]] [some (.int n), some (.int 0)] = some (.ok .nx, [some (.int 0), some (.int (worth n))]) := w
  simp [w']
theorem e_xinside {a b : M} (h0 : 0 < a.2 + b.2) (hs : Sz (a.2 + b.2)) : F_xlaw_inside [.tup [dM a, dM b]] [] = some (.ok (dM (mid (a, b))), []) := by
  have m := e_xmade (a := a.1 + b.1) h0 hs
  simp [F_xlaw_inside, denF, b_xlaw_inside, c_xlaw_inside, dM] at m ⊢
  simp [m, mid, dM]
theorem Vk.wAt {h : Ho} (V : Vk h) {k : Nat} {s t : Sh} (hk : h.sh[k]? = some s) (hn : t.nm = s.nm) (ht : t.tk.length ≤ 4 ∧ ∀ c ∈ t.tk, PyData.strOk c = true) (htk : F_are_takes [.tup (h.cs.map .str), .tup (t.tk.map .str)] [] = some (.ok (.bl true), [])) (hl : 1 ≤ t.sl.length ∧ t.sl.length ≤ 20) (hm : (mks t.sl).Sublist (mks s.sl)) : Vk (Rf.wAt h k t) where
  toVd := V.toVd.wAt hk hn ht hl hm
  fcs := V.fcs
  fnm := fun u hu => by
    rcases wAt_mem hk hu with rfl | hu
    · rw [hn]; exact V.fnm s (List.mem_of_getElem? hk)
    · exact V.fnm u hu
  ftk := fun u hu => by
    rcases wAt_mem hk hu with rfl | hu
    · exact htk
    · exact V.ftk u hu
theorem shV_le {c : Str} {low : M} {s t : Sh} (e : t.tk = s.tk) (h : (gapAt s.sl low).2 ≤ (gapAt t.sl low).2) : shV c low s ≤ shV c low t := by
  unfold shV
  rw [e]
  split
  · have := worth_mono _ _ h
    omega
  · omega
end K02

set_option maxRecDepth 100000
set_option maxHeartbeats 4000000
/-! ER22: a slot put in. -/
namespace K02
open PySem PySem.Spec PyProof.Rows L2 Rf
theorem last_ex {α : Type} (a : α) (l : List α) : ∃ Q x, a :: l = Q ++ [x] := ⟨(a :: l).dropLast, (a :: l).getLast (by simp), (List.dropLast_concat_getLast (by simp)).symm⟩
theorem head_ex {α : Type} (l : List α) (a : α) : ∃ y R, l ++ [a] = y :: R := by
  cases l with
  | nil => exact ⟨a, [], rfl⟩
  | cons b l => exact ⟨b, l ++ [a], rfl⟩
theorem ix_sh {l : List Sh} {i : Nat} {t : Sh} (h : l[i]? = some t) : ixD (.tup (l.map dSh)) (.int i) = some (dSh t) := by
  show L2.atI (l.map dSh) (i : Int) = _
  rw [at_nat, List.getElem?_map, h]
  rfl
@[simp] theorem ix_dSh2 (t : Sh) : ixD (dSh t) (.int 2) = some (.tup (t.sl.map dO)) := by simp [dSh]
end K02

set_option maxRecDepth 100000
set_option maxHeartbeats 4000000
/-! ES22: the houses of the law, and its inner loops. -/
namespace K02
open PySem PySem.Spec PyProof.Rows L2 Rf
section
variable {most wide marked : Nat} {h : Ho}
theorem Drawn.cmem (d : Drawn most wide marked h) {c : Str} (hc : c ∈ h.cs) : c ∈ L4 := by
  obtain ⟨j, _, e⟩ := d.cols
  rw [e] at hc
  exact List.mem_of_mem_take hc
theorem Drawn.cpw (d : Drawn most wide marked h) : h.cs.Pairwise fun a b => a.cps.toList < b.cps.toList := by
  obtain ⟨j, _, e⟩ := d.cols
  rw [e]
  exact L4_pw.sublist (List.take_sublist _ _)
theorem Drawn.nmem (d : Drawn most wide marked h) {s : Sh} (hs : s ∈ h.sh) : s.nm ∈ N5 := by
  obtain ⟨j, _, e⟩ := d.nms
  have : s.nm ∈ h.sh.map (·.nm) := List.mem_map.mpr ⟨s, hs, rfl⟩
  rw [e] at this
  exact List.mem_of_mem_take this
theorem Drawn.len (d : Drawn most wide marked h) : h.sh.length ≤ most := by
  obtain ⟨j, hj, e⟩ := d.nms
  have := congrArg List.length e
  rw [List.length_map, List.length_take] at this
  omega
theorem Drawn.takes (d : Drawn most wide marked h) {cs l : List Str} (hl : l ≠ []) (hs : l.Sublist h.cs) (hc : ∀ c ∈ l, c ∈ cs) (hk : ∀ c ∈ cs, PyData.strOk c = true) : F_are_takes [.tup (cs.map .str), .tup (l.map .str)] [] = some (.ok (.bl true), []) :=
  e_are_takes (List.length_pos_iff.mpr hl) (Nat.le_trans hs.length_le d.vk.cs4) (fun c hc => (L4_mem (d.cmem (hs.subset hc))).1) (d.cpw.sublist hs) hc hk
/-- one more passes -/
theorem Drawn.more (d : Drawn most wide marked h) : Vk { h with ps := h.ps + 1 } := by
  have V := d.vk
  exact { n5 := V.n5, ps0 := by have := V.ps0; simp only; omega, ps1 := by have := d.ps; simp only; omega, cs0 := V.cs0, cs4 := V.cs4, csk := V.csk, nm := V.nm, nmk := V.nmk, tkk := V.tkk, s1 := V.s1, mrk := V.mrk, asc := V.asc, nd := V.nd, few := V.few, fcs := V.fcs, fnm := V.fnm, ftk := V.ftk }
theorem more_col (h : Ho) {c : Str} (hc : c ∈ h.cs) : colN { h with ps := h.ps + 1 } c = colN h c + 1 :=
  colN_add hc hc rfl fun low _ => by unfold sumAt; simp only; omega
/-- a colour that nobody takes -/
def zinc : Str := "zinc"
def zedN : Str := "zed"
theorem Drawn.wideV (d : Drawn most wide marked h) (hl : h.cs.length < 4) : Vk { h with cs := h.cs ++ [zinc] } ∧ sortedS (h.cs ++ [zinc]) = true := by
  have V := d.vk
  obtain ⟨j, hj, e⟩ := d.cols
  have cl : h.cs.length = 1 + j := by rw [e, List.length_take]; have : L4.length = 4 := rfl; omega
  have hj2 : j ≤ 2 := by omega
  have all : (∀ s ∈ h.cs ++ [zinc], isName s = true ∧ PyData.strOk s = true) ∧ (h.cs ++ [zinc]).Pairwise (fun a b => a.cps.toList < b.cps.toList) ∧ sortedS (h.cs ++ [zinc]) = true := by
    rw [e]
    have g : (∀ s ∈ L4 ++ [zinc], isName s = true ∧ PyData.strOk s = true) ∧ (L4 ++ [zinc]).Pairwise (fun a b => a.cps.toList < b.cps.toList) := ⟨fun s hs => by
      rcases List.mem_append.mp hs with hs | hs
      · exact L4_mem hs
      · rw [List.mem_singleton.mp hs]
        exact ⟨by decide +kernel, by decide +kernel⟩, by decide +kernel⟩
    have sub : (L4.take (1 + j) ++ [zinc]).Sublist (L4 ++ [zinc]) := (List.take_sublist _ _).append (List.Sublist.refl _)
    refine ⟨fun s hs => g.1 s (sub.subset hs), g.2.sublist sub, ?_⟩
    have : j = 0 ∨ j = 1 ∨ j = 2 := by omega
    rcases this with rfl | rfl | rfl <;> decide +kernel
  obtain ⟨a1, a2, a3⟩ := all
  have ll : (h.cs ++ [zinc]).length = h.cs.length + 1 := by simp
  refine ⟨{ n5 := V.n5, ps0 := V.ps0, ps1 := V.ps1, cs0 := by simp, cs4 := by rw [ll]; omega, csk := fun c hc => (a1 c hc).2, nm := V.nm, nmk := V.nmk, tkk := V.tkk, s1 := V.s1, mrk := V.mrk, asc := V.asc, nd := V.nd, few := V.few, fcs := e_are_colours (by rw [ll]; omega) (by rw [ll]; omega) (fun s hs => (a1 s hs).1) a2, fnm := V.fnm, ftk := fun s hs => ?_ }, a3⟩
  obtain ⟨t1, t2⟩ := d.tks s hs
  exact d.takes t2 t1 (fun c hc => List.mem_append_left _ (t1.subset hc)) fun c hc => (a1 c hc).2
theorem sum_ge {h : Ho} (c : Str) (low : M) : h.ps ≤ sumAt h c low := by
  unfold sumAt
  have : 0 ≤ (h.sh.map (shV c low)).sum := sum_nonneg fun x hx => by
    obtain ⟨s, _, rfl⟩ := List.mem_map.mp hx
    unfold shV
    split <;> omega
  omega
theorem sure_ge {h : Ho} (hc : h.cs ≠ []) : h.ps ≤ sure h := by
  obtain ⟨c, _, low, _, e⟩ := sure_atL hc
  rw [e]
  exact sum_ge c low
theorem Drawn.wideS (d : Drawn most wide marked h) : sure { h with cs := h.cs ++ [zinc] } = h.ps := by
  have z : zinc ∉ L4 := by decide +kernel
  have h1 : sure { h with cs := h.cs ++ [zinc] } ≤ sumAt { h with cs := h.cs ++ [zinc] } zinc (0, 1) := sure_leL (by simp) (low0 _)
  have h2 : sumAt { h with cs := h.cs ++ [zinc] } zinc (0, 1) = h.ps := by
    unfold sumAt
    have : h.sh.map (shV zinc (0, 1)) = h.sh.map fun _ => (0 : Int) := List.map_congr_left fun s hs => by
      unfold shV
      rw [if_neg fun hz => z (d.cmem ((d.tks s hs).1.subset hz))]
    simp only
    rw [this]
    have : ∀ l : List Sh, (l.map fun _ => (0 : Int)).sum = 0 := fun l => by
      induction l with
      | nil => rfl
      | cons a l ih => rw [List.map_cons, List.sum_cons, ih]; rfl
    rw [this]
    omega
  have h3 : h.ps ≤ sure { h with cs := h.cs ++ [zinc] } := sure_ge (h := { h with cs := h.cs ++ [zinc] }) (by simp)
  omega
/-- one more shelf, empty -/
def zed (h : Ho) (n : Nat) : Sh := ⟨zedN, h.cs, List.replicate n none⟩
def plus (h : Ho) (n : Nat) : Ho := { h with sh := h.sh ++ [zed h n] }
theorem plus_own (h : Ho) (n : Nat) : own (plus h n) = own h := by
  unfold own plus zed
  simp
theorem gap_rep (n : Nat) (low : M) : (gapAt (List.replicate n none) low).2 = n := by
  unfold gapAt
  have := gapG_rep (lt low) [] n 0 0
  rw [List.append_nil] at this
  rw [this]
  simp [gapG]
theorem plus_sum (h : Ho) (n : Nat) {c : Str} (hc : c ∈ h.cs) (low : M) : sumAt (plus h n) c low = sumAt h c low + worth n := by
  unfold sumAt plus
  have : shV c low (zed h n) = worth n := by
    unfold shV zed
    simp only
    rw [if_pos hc, gap_rep]
  simp only [List.map_append, List.sum_append, List.map_cons, List.map_nil, List.sum_cons, List.sum_nil, this]
  omega
theorem Drawn.plusV (d : Drawn 4 wide marked h) {n : Nat} (h1 : 1 ≤ n) (h2 : n ≤ 20) : Vk (plus h n) := by
  have V := d.vk
  have dl := d.len
  have nz : ∀ s ∈ N5, s.cps.toList < zedN.cps.toList := by decide +kernel
  have zk : isName zedN = true ∧ PyData.strOk zedN = true ∧ zedN ≠ "" := ⟨by decide +kernel, by decide +kernel, by decide +kernel⟩
  have mem : ∀ {s : Sh}, s ∈ (plus h n).sh → s ∈ h.sh ∨ s = zed h n := fun {s} hs => by
    rcases List.mem_append.mp hs with hs | hs
    · exact .inl hs
    · exact .inr (List.mem_singleton.mp hs)
  have mz : mks (zed h n).sl = [] := mks_rep n
  exact {
    n5 := by show (h.sh ++ [zed h n]).length ≤ 5; rw [List.length_append, List.length_singleton]; omega
    ps0 := V.ps0, ps1 := V.ps1, cs0 := V.cs0, cs4 := V.cs4, csk := V.csk
    nm := List.pairwise_append.mpr ⟨V.nm, by simp, fun a ha b hb => by rw [List.mem_singleton.mp hb]; exact nz _ (d.nmem ha)⟩
    nmk := fun s hs => by
      rcases mem hs with hs | rfl
      · exact V.nmk s hs
      · exact zk.2
    tkk := fun s hs => by
      rcases mem hs with hs | rfl
      · exact V.tkk s hs
      · exact ⟨V.cs4, V.csk⟩
    s1 := fun s hs => by
      rcases mem hs with hs | rfl
      · exact V.s1 s hs
      · exact by show 1 ≤ (List.replicate n (none : Option M)).length ∧ _; simp [zed, h1, h2]
    mrk := fun s hs m hm => by
      rcases mem hs with hs | rfl
      · exact V.mrk s hs m hm
      · rw [mz] at hm; cases hm
    asc := fun s hs => by
      rcases mem hs with hs | rfl
      · exact V.asc s hs
      · rw [mz]; exact List.Pairwise.nil
    nd := by rw [plus_own]; exact V.nd
    few := by rw [plus_own]; exact V.few
    fcs := V.fcs
    fnm := fun s hs => by
      rcases mem hs with hs | rfl
      · exact V.fnm s hs
      · exact e_is_name zk.1
    ftk := fun s hs => by
      rcases mem hs with hs | rfl
      · exact V.ftk s hs
      · exact d.takes V.cs0 (List.Sublist.refl _) (fun c hc => hc) V.csk }
theorem plus_col (h : Ho) (n : Nat) {c : Str} (hc : c ∈ h.cs) : colN (plus h n) c = colN h c + worth n :=
  colN_add hc hc (lows_own (plus_own h n)) fun low _ => plus_sum h n hc low
theorem Drawn.notSpare (d : Drawn 4 wide marked h) {n : Nat} (h1 : 1 ≤ n) : zedN ∉ spareH (plus h n) := by
  intro hz
  have nz : zedN ∉ N5 := by decide +kernel
  obtain ⟨s, hs, e⟩ := List.mem_map.mp hz
  obtain ⟨_, g⟩ := List.mem_filter.mp hs
  rw [Bool.and_eq_true, decide_eq_true_eq, decide_eq_true_eq, e] at g
  have wz : wout (plus h n) zedN = h := by
    unfold wout plus
    have f1 : (h.sh ++ [zed h n]).filter (fun s => decide (s.nm ≠ zedN)) = h.sh := by
      rw [List.filter_append]
      have a : h.sh.filter (fun s => decide (s.nm ≠ zedN)) = h.sh := List.filter_eq_self.mpr fun s hs => decide_eq_true fun z => nz (z ▸ d.nmem hs)
      have b : [zed h n].filter (fun s => decide (s.nm ≠ zedN)) = [] := by simp [zed]
      rw [a, b, List.append_nil]
    rw [f1]
  rw [wz] at g
  have w1 : 1 ≤ worth n := by rw [worth_pos (by omega)]; omega
  obtain ⟨c, hc, low, hl, es⟩ := sure_atL (h := plus h n) d.vk.cs0
  have hc' : c ∈ h.cs := hc
  have := plus_sum h n hc' low
  have := sure_leL (h := h) hc' (lows_own (plus_own h n) ▸ hl)
  have := g.2
  omega
end
end K02

set_option maxRecDepth 100000
set_option maxHeartbeats 4000000
/-! EV: the law's own stretches, sums. -/
namespace K02
open PySem PySem.Spec PyProof.Rows L2 Rf
theorem rng_nat {n : Nat} (h : n ≤ 100000) : rngD (.int 0) (.int n) = some ((List.range n).map fun i : Nat => D.int (i : Int)) := by
  rw [rng_0 h, rngF_eq]
  congr 1
  apply List.map_congr_left
  intro i _
  rw [Int.zero_add]
theorem ix_lm {α : Type} {f : α → D} {l : List α} {i : Nat} {a : α} (h : l[i]? = some a) : ixD (.lst (l.map f)) (.int i) = some (f a) := by
  show L2.atI (l.map f) (i : Int) = _
  rw [at_nat, List.getElem?_map, h]
  rfl
theorem ix_tm {α : Type} {f : α → D} {l : List α} {i : Nat} {a : α} (h : l[i]? = some a) : ixD (.tup (l.map f)) (.int i) = some (f a) := by
  show L2.atI (l.map f) (i : Int) = _
  rw [at_nat, List.getElem?_map, h]
  rfl
theorem zip_range {α : Type} (d : α) (l : List α) : (List.range (l.length - 1)).map (fun i => (l.getD i d, l.getD (i + 1) d)) = l.zip (l.drop 1) := by
  apply List.ext_getElem?
  intro i
  rw [List.getElem?_map]
  by_cases hi : i < l.length - 1
  · rw [List.getElem?_range hi]
    have h1 : l[i]? = some (l[i]'(by omega)) := List.getElem?_eq_getElem (by omega)
    have h2 : (l.drop 1)[i]? = some (l[i + 1]'(by omega)) := by
      rw [List.getElem?_drop, Nat.add_comm 1 i]
      exact List.getElem?_eq_getElem (by omega)
    have h3 : (l.zip (l.drop 1))[i]? = some (l[i]'(by omega), l[i + 1]'(by omega)) := List.getElem?_zip_eq_some.mpr ⟨h1, h2⟩
    rw [h3]
    simp [List.getD_eq_getElem?_getD, h1, List.getElem?_eq_getElem (show i + 1 < l.length by omega)]
  · rw [List.getElem?_eq_none_iff.mpr (by rw [List.length_range]; omega), List.getElem?_eq_none_iff.mpr (by rw [List.length_zip, List.length_drop]; omega)]
    rfl
theorem ends_len {h : Ho} (V : Vd h) : (ends h).length ≤ 65 := by
  have := own_le V
  unfold ends allM
  rw [List.length_cons, List.length_append, ordM_len]
  simp only [List.length_cons, List.length_nil]
  omega
theorem e_xparted {h : Ho} (V : Vd h) : F_xlaw_parted [dH h] [] = some (.ok (.lst ((strt h).map dP)), []) := by
  have el := ends_len V
  have l1 : 1 ≤ (ends h).length := by unfold ends; rw [List.length_cons]; omega
  have ee := ends_map h
  have e1 : ((ends h).length : Int) - 1 = (((ends h).length - 1 : Nat) : Int) := by omega
  have rr := rng_nat (n := (ends h).length - 1) (by omega)
  have c := comp_eq0 (G := mkG [F_xlaw_marks] []) (elt := .tup (.cons (.ix (.v 1) (.v 2)) (.cons (.ix (.v 1) (.bin .Add (.v 2) (.c (.int 1)))) .nil))) (t := .nm 2) (it := .r1 (.bin .Sub (.bi .len (.cons (.v 1) .nil)) (.c (.int 1)))) (own := [2]) (enc := fun i : Nat => D.int (i : Int)) (e := [some (dH h), some (.lst ((ends h).map dM)), none]) (xs := List.range ((ends h).length - 1))
    (fun i => [some (dH h), some (.lst ((ends h).map dM)), some (.int (i : Int))]) (fun i => dP ((ends h).getD i (0, 1), (ends h).getD (i + 1) (0, 1))) (by simp [e1, rr]) (fun i hi => by simp) (fun i hi => by
      have hi := List.mem_range.mp hi
      have h1 : (ends h)[i]? = some ((ends h).getD i (0, 1)) := by rw [List.getD_eq_getElem?_getD, List.getElem?_eq_getElem (by omega)]; rfl
      have h2 : (ends h)[i + 1]? = some ((ends h).getD (i + 1) (0, 1)) := by rw [List.getD_eq_getElem?_getD, List.getElem?_eq_getElem (by omega)]; rfl
      have g1 := ix_lm (f := dM) h1
      have g2 := ix_lm (f := dM) h2
      have e2 : (((i + 1 : Nat) : Nat) : Int) = (i : Int) + 1 := by omega
      rw [e2] at g2
      simp [g1, g2, dP]) (fun i hi => by simp)
  have z : (List.range ((ends h).length - 1)).map (fun i => dP ((ends h).getD i (0, 1), (ends h).getD (i + 1) (0, 1))) = (strt h).map dP := by
    unfold strt
    rw [← zip_range (0, 1) (ends h), List.map_map]
    rfl
  rw [z] at c
  have lm : (allM h).length + 1 ≤ LIM := by
    have := own_le V
    unfold allM
    rw [ordM_len, lim_num]
    omega
  have lm2 : 1 + (allM h).length ≤ LIM := by omega
  have lm3 : (allM h).length + 1 + 1 ≤ LIM := by
    have := own_le V
    unfold allM
    rw [ordM_len, lim_num]
    omega
  simp only [F_xlaw_parted, denF, b_xlaw_parted, c_xlaw_parted]
  simp [-d_comp, List.replicate, e_xmarks V, lm, lm2, lm3, ee, c]
noncomputable abbrev GS : Gam := mkG [F_xlaw_parted, F_xlaw_inside, F_xlaw_w, F_xlaw_gap] []
abbrev bS1 : List Sm := [.set 5 (.bin .Add (.v 5) (.ite (.cmp .In (.v 2) (.v 7)) (.call 2 (.cons (.bi .len (.cons (.call 3 (.cons (.v 8) (.cons (.v 4) .nil)) []) .nil)) .nil) []) (.c (.int 0))))]
theorem xs_in {h : Ho} (V : Vd h) (L : Low h) {c : Str} (hc : c ∈ h.cs) {s : M × M} (hs : s ∈ strt h) (a0 a1 a3 : Option D) : ∀ (l : List Sh) (t : Int) (x6 x7 x8 : Option D), (∀ u ∈ l, u ∈ h.sh) →
    ∃ y6 y7 y8, frD GS (.tp [(.nm 6), (.nm 7), (.nm 8)]) bS1 (l.map dSh) [a0, a1, some (.str c), a3, some (dM (mid s)), some (.int t), x6, x7, x8] = some (.ok .nx, [a0, a1, some (.str c), a3, some (dM (mid s)), some (.int (t + (l.map (shV c s.1)).sum)), y6, y7, y8])
  | [], t, x6, x7, x8, _ => ⟨x6, x7, x8, by simp⟩
  | u :: l, t, x6, x7, x8, hm => by
    have hu := hm u List.mem_cons_self
    obtain ⟨g1, g2, g3, g4, g5⟩ := mid_facts V L hs
    obtain ⟨y6, y7, y8, ih⟩ := xs_in V L hc hs a0 a1 a3 l (t + shV c s.1 u) (some (.str u.nm)) (some (.tup (u.tk.map .str))) (some (.tup (u.sl.map dO))) fun v hv => hm v (List.mem_cons_of_mem _ hv)
    refine ⟨y6, y7, y8, ?_⟩
    rw [List.map_cons, List.map_cons, List.sum_cons, f_turn]
    have xg := e_xgap (m := mid s) g1 (V.mrk u hu) (V.asc u hu) (fun z => g4 (allM_mem.mpr ⟨u, hu, z⟩)) (V.s1 u hu).2
    have xw := e_xw (gapAt u.sl (mid s)).2
    have sm : gapAt u.sl s.1 = gapAt u.sl (mid s) := gap_congr fun x hx => V.alike hs g1 g2 g3 (allM_mem.mpr ⟨u, hu, hx⟩)
    have i1 := in_strs (V.tkk u hu).2 (V.csk c hc)
    have e := Int.add_assoc t (shV c s.1 u) (l.map (shV c s.1)).sum
    rw [e] at ih
    by_cases hq : c ∈ u.tk
    · have sv : shV c s.1 u = (worth (gapAt u.sl (mid s)).2 : Int) := by unfold shV; rw [if_pos hq, sm]
      rw [sv] at ih ⊢
      rw [← ih]
      simp [dSh, i1, hq, xg, xw]
    · have sv : shV c s.1 u = 0 := by unfold shV; rw [if_neg hq]
      rw [sv] at ih ⊢
      rw [← ih]
      simp [dSh, i1, hq]
abbrev bS2 : List Sm := [.par [(4, false, (.call 1 (.cons (.v 3) .nil) [])), (5, false, (.ix (.v 0) (.c (.int 1))))], .fr (.tp [(.nm 6), (.nm 7), (.nm 8)]) (.sq (.ix (.v 0) (.c (.int 0)))) bS1, .app 1 (.tup (.cons (.v 2) (.cons (.v 3) (.cons (.v 5) .nil))))]
theorem xs_mid {h : Ho} (V : Vd h) (L : Low h) {c : Str} (hc : c ∈ h.cs) : ∀ (l : List (M × M)) (acc : List Row) (x3 x4 x5 x6 x7 x8 : Option D), (∀ s ∈ l, s ∈ strt h) → acc.length + l.length ≤ 1000 →
    ∃ y3 y4 y5 y6 y7 y8, frD GS (.nm 3) bS2 (l.map dP) [some (dH h), some (.lst (acc.map dR)), some (.str c), x3, x4, x5, x6, x7, x8] = some (.ok .nx, [some (dH h), some (.lst ((acc ++ l.map fun s => (c, s, sumAt h c s.1)).map dR)), some (.str c), y3, y4, y5, y6, y7, y8])
  | [], acc, x3, x4, x5, x6, x7, x8, _, _ => ⟨x3, x4, x5, x6, x7, x8, by simp⟩
  | s :: l, acc, x3, x4, x5, x6, x7, x8, hm, hl => by
    have hs := hm s List.mem_cons_self
    rw [List.length_cons] at hl
    obtain ⟨a1, a2, a3, a4⟩ := V.str.mp hs
    have b1 := L.ends a1
    have b2 := L.ends a2
    have c1 := (V.okEnd a1).c
    have c2 := (V.okEnd a2).c
    have p : (10 : Int) ^ 40 < 10 ^ 41 := by decide
    have xi := e_xinside (a := s.1) (b := s.2) (by omega) (Sz.of (by omega) (by omega))
    have xi' : F_xlaw_inside [dP s] [] = some (.ok (dM (mid s)), []) := xi
    obtain ⟨z6, z7, z8, w⟩ := xs_in V L hc hs (some (dH h)) (some (.lst (acc.map dR))) (some (dP s)) h.sh h.ps x6 x7 x8 fun _ z => z
    have es : h.ps + (h.sh.map (shV c s.1)).sum = sumAt h c s.1 := rfl
    rw [es] at w
    obtain ⟨y3, y4, y5, y6, y7, y8, ih⟩ := xs_mid V L hc l (acc ++ [(c, s, sumAt h c s.1)]) (some (dP s)) (some (dM (mid s))) (some (.int (sumAt h c s.1))) z6 z7 z8 (fun v hv => hm v (List.mem_cons_of_mem _ hv)) (by rw [List.length_append]; simp only [List.length_cons, List.length_nil]; omega)
    refine ⟨y3, y4, y5, y6, y7, y8, ?_⟩
    have e : acc ++ (s :: l).map (fun s => (c, s, sumAt h c s.1)) = acc ++ [(c, s, sumAt h c s.1)] ++ l.map fun s => (c, s, sumAt h c s.1) := by simp
    rw [e, ← ih, List.map_cons, f_turn]
    have hle : acc.length < LIM := by rw [lim_num]; omega
    simp [xi', w, lstAt, hle, dR]
abbrev bS3 : List Sm := [.fr (.nm 3) (.sq (.call 0 (.cons (.v 0) .nil) [])) bS2]
theorem xs_out {h : Ho} (V : Vd h) (L : Low h) : ∀ (l : List Str) (acc : List Row) (x2 x3 x4 x5 x6 x7 x8 : Option D), (∀ c ∈ l, c ∈ h.cs) → acc.length + 64 * l.length ≤ 900 →
    ∃ y2 y3 y4 y5 y6 y7 y8, frD GS (.nm 2) bS3 (l.map .str) [some (dH h), some (.lst (acc.map dR)), x2, x3, x4, x5, x6, x7, x8] = some (.ok .nx, [some (dH h), some (.lst ((acc ++ l.flatMap fun c => (strt h).map fun s => (c, s, sumAt h c s.1)).map dR)), y2, y3, y4, y5, y6, y7, y8])
  | [], acc, x2, x3, x4, x5, x6, x7, x8, _, _ => ⟨x2, x3, x4, x5, x6, x7, x8, by simp⟩
  | c :: l, acc, x2, x3, x4, x5, x6, x7, x8, hm, hl => by
    have hc := hm c List.mem_cons_self
    rw [List.length_cons] at hl
    have sl := strt_len V
    obtain ⟨z3, z4, z5, z6, z7, z8, w⟩ := xs_mid V L hc (strt h) acc x3 x4 x5 x6 x7 x8 (fun _ z => z) (by omega)
    obtain ⟨y2, y3, y4, y5, y6, y7, y8, ih⟩ := xs_out V L l (acc ++ (strt h).map fun s => (c, s, sumAt h c s.1)) (some (.str c)) z3 z4 z5 z6 z7 z8 (fun v hv => hm v (List.mem_cons_of_mem _ hv)) (by rw [List.length_append, List.length_map]; omega)
    refine ⟨y2, y3, y4, y5, y6, y7, y8, ?_⟩
    rw [List.flatMap_cons, ← List.append_assoc, ← ih, List.map_cons, f_turn]
    simp [e_xparted V, w]
theorem e_xsums {h : Ho} (V : Vd h) (L : Low h) : F_xlaw_sums [dH h] [] = some (.ok (.lst ((allS h).map dR)), []) := by
  obtain ⟨y2, y3, y4, y5, y6, y7, y8, w⟩ := xs_out V L h.cs [] none none none none none none none (fun _ z => z) (by have := V.cs4; simp only [List.length_nil]; omega)
  have w2 : (h.cs.flatMap fun c => (strt h).map fun s => (c, s, sumAt h c s.1)) = allS h := rfl
  rw [List.nil_append, List.map_nil, w2] at w
  simp [F_xlaw_sums, denF, b_xlaw_sums, c_xlaw_sums, List.replicate, w]
theorem e_xsure {h : Ho} (V : Vd h) (L : Low h) : F_xlaw_sure [dH h] [] = some (.ok (.int (sure h)), []) := by
  have c := comp_eq0 (G := mkG [F_xlaw_sums] []) (elt := .ix (.v 1) (.c (.int 2))) (t := .nm 1) (it := .sq (.call 0 (.cons (.v 0) .nil) [])) (own := [1]) (enc := dR) (e := [some (dH h), none]) (xs := allS h)
    (fun r => [some (dH h), some (dR r)]) (fun r => .int r.2.2) (by simp [e_xsums V L]) (fun r hr => by simp) (fun r hr => by simp [dR]) (fun r hr => by simp)
  have m := min_l ((allS h).map fun r => r.2.2) (allS_ne V.cs0)
  rw [List.map_map] at m
  have m2 : biD .min [.lst ((allS h).map fun r => D.int r.2.2)] = some (.int (sure h)) := m
  simp [-d_comp, F_xlaw_sure, denF, b_xlaw_sure, c_xlaw_sure, List.replicate, c, m2]
end K02

set_option maxRecDepth 100000
set_option maxHeartbeats 4000000
/-! ESM: _law_same of a thing and itself. -/
namespace K02
open PySem PySem.Spec PyProof.Rows L2 Rf
theorem sort_l (ds : List D) : F_xlaw_sort [.lst ds] [] = some (.ok (.int 4), []) := by simp [F_xlaw_sort, denF, b_xlaw_sort, c_xlaw_sort]
theorem sort_tu (ds : List D) : F_xlaw_sort [.tup ds] [] = some (.ok (.int 5), []) := by simp [F_xlaw_sort, denF, b_xlaw_sort, c_xlaw_sort]
theorem sort_b (b : Bool) : F_xlaw_sort [.bl b] [] = some (.ok (.int 1), []) := by simp [F_xlaw_sort, denF, b_xlaw_sort, c_xlaw_sort]
theorem sort_i (i : Int) : F_xlaw_sort [.int i] [] = some (.ok (.int 2), []) := by simp [F_xlaw_sort, denF, b_xlaw_sort, c_xlaw_sort]
theorem sort_s (i : Str) : F_xlaw_sort [.str i] [] = some (.ok (.int 3), []) := by simp [F_xlaw_sort, denF, b_xlaw_sort, c_xlaw_sort]
theorem sort_n : F_xlaw_sort [.non] [] = some (.ok (.int 6), []) := by simp [F_xlaw_sort, denF, b_xlaw_sort, c_xlaw_sort]
theorem dep_memL : ∀ {l : List D} {d : D}, d ∈ l → dep d ≤ depL l
  | [], _, h => nomatch h
  | a :: l, d, h => by
    rw [depL_c]
    rcases List.mem_cons.mp h with rfl | h
    · exact Nat.le_max_left _ _
    · exact Nat.le_trans (dep_memL h) (Nat.le_max_right _ _)
mutual
theorem eqD_self : ∀ d : D, lay d = true → eqD d d = true
  | .non, _ => eq_nn
  | .bl b, _ => by simp
  | .int i, _ => by simp
  | .str i, _ => by simp
  | .tup l, h => by rw [eq_tt]; exact eqL_self l (by simpa using h)
  | .lst l, h => by rw [eq_ll]; exact eqL_self l (by simpa using h)
  | .dic l, h => by simp [lay, toPD, PyData.canLay0] at h
  | .fn l, h => by simp [lay, toPD, PyData.canLay0] at h
theorem eqL_self : ∀ l : List D, layL l = true → eqL l l = true
  | [], _ => rfl
  | a :: l, h => by
    rw [layL_c, Bool.and_eq_true] at h
    rw [eqL_cc, eqD_self a h.1, eqL_self l h.2]
    rfl
end
theorem same_in {n : Nat} {ds : List D} {d : D} (hd : d = .lst ds ∨ d = .tup ds) (ih : ∀ x ∈ ds, F_xlaw_samen n [x, x] [] = some (.ok (.bl true), [])) :
    denE (mkG [F_xlaw_sort, F_xlaw_samen n] []) (.comp (.v 2) (.tp [(.nm 2), (.nm 3)]) (.en (.v 0)) (.cons (.not (.call 1 (.cons (.v 3) (.cons (.ix (.v 1) (.v 2)) .nil)) [])) .nil) [2, 3]) [some d, some d, none, none] = some (.ok (.lst []), [some d, some d, none, none]) := by
  have en : enumD d = some ((ds.zipIdx 0).map fun p => D.tup [.int p.2, p.1]) := by
    have := enumF_eq (fun x : D => x) 0 ds
    rw [List.map_id'] at this
    rcases hd with rfl | rfl <;> simp [this]
  have ix : ∀ p ∈ ds.zipIdx 0, ixD d (.int (p.2 : Int)) = some p.1 := fun p hp => by
    have h := List.mk_mem_zipIdx_iff_getElem?.mp (show (p.1, p.2) ∈ ds.zipIdx 0 from hp)
    rcases hd with rfl | rfl
    · have := ix_lm (f := fun x : D => x) h
      rw [List.map_id'] at this
      exact this
    · have := ix_tm (f := fun x : D => x) h
      rw [List.map_id'] at this
      exact this
  have mem : ∀ p ∈ ds.zipIdx 0, p.1 ∈ ds := fun p hp => List.mem_of_getElem? (List.mk_mem_zipIdx_iff_getElem?.mp (show (p.1, p.2) ∈ ds.zipIdx 0 from hp))
  have c := comp_eq (G := mkG [F_xlaw_sort, F_xlaw_samen n] []) (elt := .v 2) (t := .tp [(.nm 2), (.nm 3)]) (it := .en (.v 0)) (cs := .cons (.not (.call 1 (.cons (.v 3) (.cons (.ix (.v 1) (.v 2)) .nil)) [])) .nil) (own := [2, 3]) (enc := fun p : D × Nat => D.tup [.int p.2, p.1]) (e := [some d, some d, none, none]) (xs := ds.zipIdx 0)
    (fun p => [some d, some d, some (.int p.2), some p.1]) (fun _ => false) (fun p => .int p.2) (by simp [en]) (fun p hp => by simp) (fun p hp => by simp [ix p hp, ih p.1 (mem p hp)]) (fun p hp z => by cases z) (fun p hp => by simp)
  rw [c, List.filter_eq_nil_iff.mpr fun _ _ z => by cases z]
  rfl
theorem e_same_n : ∀ (n : Nat) (d : D), lay d = true → dep d < n → n ≤ 90 → F_xlaw_samen n [d, d] [] = some (.ok (.bl true), [])
  | 0, d, _, h, _ => absurd h (Nat.not_lt_zero _)
  | n + 1, d, hl, hd, hn => by
    have ok : okEq d d = true := okEq_of hl hl (.inl (by omega))
    have eq := eqD_self d hl
    have ok0 : okEq (.lst []) (.lst []) = true := okEq_of rfl rfl (.inl (by simp))
    cases d with
    | lst ds =>
      have c := same_in (n := n) (.inl rfl) fun x hx => e_same_n n x (by
        rw [lay_l, layL_all, List.all_eq_true] at hl
        exact hl x hx) (by
        have := dep_memL hx
        rw [dep_l] at hd
        omega) (by omega)
      simp [-d_comp, F_xlaw_samen, denF, b_xlaw_same, c_xlaw_same, List.replicate, sort_l, c, ok0]
    | tup ds =>
      have c := same_in (n := n) (.inr rfl) fun x hx => e_same_n n x (by
        rw [lay_t, layL_all, List.all_eq_true] at hl
        exact hl x hx) (by
        have := dep_memL hx
        rw [dep_t] at hd
        omega) (by omega)
      simp [-d_comp, F_xlaw_samen, denF, b_xlaw_same, c_xlaw_same, List.replicate, sort_tu, c, ok0]
    | non => simp [F_xlaw_samen, denF, b_xlaw_same, c_xlaw_same, List.replicate, sort_n, ok]
    | bl b => simp [F_xlaw_samen, denF, b_xlaw_same, c_xlaw_same, List.replicate, sort_b, ok]
    | int b => simp [F_xlaw_samen, denF, b_xlaw_same, c_xlaw_same, List.replicate, sort_i, ok]
    | str b => simp [F_xlaw_samen, denF, b_xlaw_same, c_xlaw_same, List.replicate, sort_s, ok]
    | dic b => simp [lay, toPD, PyData.canLay0] at hl
    | fn b => simp [lay, toPD, PyData.canLay0] at hl
theorem e_same {d : D} (hl : lay d = true) (hd : dep d < 14) : F_xlaw_same [d, d] [] = some (.ok (.bl true), []) := e_same_n 14 d hl hd (by decide)
end K02

set_option maxRecDepth 100000
set_option maxHeartbeats 4000000
/-! ERF: refusals. -/
namespace K02
open PySem PySem.Spec PyProof.Rows L2 Rf
theorem tr_NoHouse : trX exs ⟨0, none⟩ = some "NoHouse+" := by rw [trX_0 exs 0 (x := "NoHouse") rfl]; decide +kernel
theorem ok_NoHouse : okEq (.str "NoHouse+") (.str "NoHouse+") = true := okEq_ss (by decide +kernel) (by decide +kernel)
theorem tr_NoName : trX exs ⟨1, none⟩ = some "NoName+" := by rw [trX_0 exs 1 (x := "NoName") rfl]; decide +kernel
theorem ok_NoName : okEq (.str "NoName+") (.str "NoName+") = true := okEq_ss (by decide +kernel) (by decide +kernel)
theorem ok_NoColour : okEq (.str "NoColour+") (.str "NoColour+") = true := okEq_ss (by decide +kernel) (by decide +kernel)
theorem tr_NoMark : trX exs ⟨2, none⟩ = some "NoMark+" := by rw [trX_0 exs 2 (x := "NoMark") rfl]; decide +kernel
theorem ok_NoMark : okEq (.str "NoMark+") (.str "NoMark+") = true := okEq_ss (by decide +kernel) (by decide +kernel)
theorem ok_NoAnswer : okEq (.str "NoAnswer+") (.str "NoAnswer+") = true := okEq_ss (by decide +kernel) (by decide +kernel)
theorem ok_NoSlot : okEq (.str "NoSlot+") (.str "NoSlot+") = true := okEq_ss (by decide +kernel) (by decide +kernel)
theorem ok_NoNumber : okEq (.str "NoNumber+") (.str "NoNumber+") = true := okEq_ss (by decide +kernel) (by decide +kernel)
theorem ok_NoTakes : okEq (.str "NoTakes+") (.str "NoTakes+") = true := okEq_ss (by decide +kernel) (by decide +kernel)
theorem ho_no1 {d : D} (h : isiD d .tuple = some false) : F_is_house [d] [] = some (.ok (.bl false), []) := by
  simp [F_is_house, denF, b_is_house, c_is_house, List.replicate, h]
theorem ho_no2 {l : List D} (h : l.length ≠ 3) : F_is_house [.tup l] [] = some (.ok (.bl false), []) := by
  have h2 : ¬ (l.length : Int) = 3 := by omega
  simp only [F_is_house, denF, b_is_house, c_is_house]
  simp [List.replicate, h, h2]
theorem need_no {d : D} (h : F_is_house [d] [] = some (.ok (.bl false), [])) : F_need_house [d] [] = some (.error ⟨0, none⟩, []) := by
  simp [F_need_house, denF, b_need_house, c_need_house, h]
theorem mk_no1 {d : D} (h : isiD d .tuple = some false) : F_is_mark [d] [] = some (.ok (.bl false), []) := by
  simp [F_is_mark, denF, b_is_mark, c_is_mark, List.replicate, h]
theorem mk_01 : F_is_mark [.tup [.int 0, .int 1]] [] = some (.ok (.bl false), []) := by
  simp [F_is_mark, denF, b_is_mark, c_is_mark, List.replicate, e_is_whole]
theorem mk_11 : F_is_mark [.tup [.int 1, .int 1]] [] = some (.ok (.bl false), []) := by
  simp [F_is_mark, denF, b_is_mark, c_is_mark, List.replicate, e_is_whole]
theorem mk_24 : F_is_mark [.tup [.int 2, .int 4]] [] = some (.ok (.bl false), []) := by
  have m := e_made (a := 2) (b := 4) (by decide) (Sz.num (by decide) (by decide))
  have r : red 2 4 = (1, 2) := by decide
  rw [r] at m
  have o : okEq (dM (1, 2)) (.tup [.int 2, .int 4]) = true := okEq_of (by simp) (by simp) (by simp)
  unfold dM at m o
  simp [F_is_mark, denF, b_is_mark, c_is_mark, List.replicate, e_is_whole, m, o]
theorem need_mark_no {h : Ho} {d : D} (hm : F_is_mark [d] [] = some (.ok (.bl false), [])) : F_need_mark [dH h, d] [] = some (.error ⟨2, none⟩, []) := by
  simp [F_need_mark, denF, b_need_mark, c_need_mark, hm]
end K02

set_option maxRecDepth 100000
set_option maxHeartbeats 8000000
/-! EQ02: stretches and gaps. -/
namespace K02
open PySem PySem.Spec PyProof.Rows L2 Rf
def firstG (p : M → Bool) : List (Option M) → Nat → Nat → Nat
  | [], _, f => f
  | none :: r, i, f => firstG p r (i + 1) f
  | some x :: r, i, f => firstG p r (i + 1) (if p x = true then i + 1 else f)
theorem firstG_no (p : M → Bool) : ∀ (sl : List (Option M)) (i f : Nat), (∀ x ∈ mks sl, p x = false) → firstG p sl i f = f
  | [], _, _, _ => rfl
  | none :: r, i, f, h => firstG_no p r (i + 1) f h
  | some x :: r, i, f, h => by
    rw [firstG, h x (by simp), if_neg (by decide)]
    exact firstG_no p r (i + 1) f fun y hy => h y (by simp [hy])
theorem firstG_gap {m : M} (hm : OkM m) : ∀ (sl : List (Option M)) (i f : Nat), (∀ x ∈ mks sl, OkM x) → Asc (mks sl) → m ∉ mks sl → firstG (fun x => lt x m) sl i f = (gapG (lt m) sl i f).1
  | [], _, _, _, _, _ => rfl
  | none :: r, i, f, hk, ha, hn => firstG_gap hm r (i + 1) f hk ha hn
  | some x :: r, i, f, hk, ha, hn => by
    rw [mks_some] at hk ha hn
    obtain ⟨a1, a2⟩ := List.pairwise_cons.mp ha
    have ox := hk x List.mem_cons_self
    have ne : x ≠ m := fun z => hn (by rw [z]; exact List.mem_cons_self)
    rw [firstG, gapG]
    have t := lt_tri ox.toOkE hm.toOkE ne
    by_cases q : lt m x = true
    · rw [if_pos q]
      rw [q] at t
      simp only [t, Bool.not_true, Bool.false_eq_true, if_false]
      refine firstG_no _ r (i + 1) f fun y hy => ?_
      have oy := hk y (List.mem_cons_of_mem _ hy)
      exact lt_asym (lt_tr hm.c ox.c oy.c q (a1 y hy))
    · have qf : lt m x = false := by simpa using q
      rw [if_neg q]
      rw [qf] at t
      simp only [t, Bool.not_false, if_true]
      exact firstG_gap hm r (i + 1) (i + 1) (fun y hy => hk y (List.mem_cons_of_mem _ hy)) a2 fun z => hn (List.mem_cons_of_mem _ z)
noncomputable abbrev GDu : Gam := mkG [F_xlaw_less, F_xlaw_gap] []
abbrev bDu : List Sm := [.ifs (.and (.cmp .IsNot (.v 4) (.c (.non))) (.call 0 (.cons (.v 4) (.cons (.v 1) .nil)) [])) [.set 2 (.bin .Add (.v 3) (.c (.int 1)))] []]
theorem due_go {m : M} (hm : OkM m) (a0 : Option D) : ∀ (l : List (Option M)) (i f : Nat) (x3 x4 : Option D), (∀ x ∈ mks l, OkM x) →
    ∃ y3 y4, frD GDu (.tp [(.nm 3), (.nm 4)]) bDu ((l.zipIdx i).map fun p => .tup [.int p.2, dO p.1]) [a0, some (dM m), some (.int f), x3, x4] = some (.ok .nx, [a0, some (dM m), some (.int (firstG (fun x => lt x m) l i f)), y3, y4])
  | [], i, f, x3, x4, _ => ⟨x3, x4, rfl⟩
  | none :: l, i, f, x3, x4, hk => by
    obtain ⟨y3, y4, ih⟩ := due_go hm a0 l (i + 1) f (some (.int i)) (some .non) hk
    refine ⟨y3, y4, ?_⟩
    rw [List.zipIdx_cons, List.map_cons, f_turn, firstG, ← ih]
    simp
  | some x :: l, i, f, x3, x4, hk => by
    have ox := hk x (by simp)
    have xl := e_xless ox.sz hm.sz
    have hk2 : ∀ y ∈ mks l, OkM y := fun y hy => hk y (by simp [hy])
    by_cases q : lt x m = true
    · obtain ⟨y3, y4, ih⟩ := due_go hm a0 l (i + 1) (i + 1) (some (.int i)) (some (dM x)) hk2
      refine ⟨y3, y4, ?_⟩
      rw [List.zipIdx_cons, List.map_cons, f_turn, firstG, if_pos q, ← ih]
      rw [q] at xl
      simp [xl]
    · have qf : lt x m = false := by simpa using q
      obtain ⟨y3, y4, ih⟩ := due_go hm a0 l (i + 1) f (some (.int i)) (some (dM x)) hk2
      refine ⟨y3, y4, ?_⟩
      rw [List.zipIdx_cons, List.map_cons, f_turn, firstG, if_neg q, ← ih]
      rw [qf] at xl
      simp [xl]
def dG (g : Nat × Nat) : D := .tup [.int g.1, .int g.2]
theorem e_xdueG {sl : List (Option M)} {m : M} (hm : OkM m) (hk : ∀ x ∈ mks sl, OkM x) (ha : Asc (mks sl)) (hn : m ∉ mks sl) (hl : sl.length ≤ 20) : F_xlaw_due [.tup (sl.map dO), dM m] [] = some (.ok (dG (gapAt sl m)), []) := by
  obtain ⟨y3, y4, w⟩ := due_go hm (some (.tup (sl.map dO))) sl 0 0 none none hk
  have w' : frD GDu (.tp [(.nm 3), (.nm 4)]) bDu ((sl.zipIdx 0).map fun p => .tup [.int p.2, dO p.1]) [some (.tup (sl.map dO)), some (dM m), some (.int 0), none, none] = _ := w
  have en := enumF_eq dO 0 sl
  have xg := e_xgap hm hk ha hn hl
  have gl := gap_le sl m
  have fg := firstG_gap hm sl 0 0 hk ha hn
  have fg' : firstG (fun x => lt x m) sl 0 0 = (gapAt sl m).1 := fg
  rw [fg'] at w'
  have l2 : (((List.range (gapAt sl m).2).map fun i => (((gapAt sl m).1 + i : Nat) : Int)).map D.int).length = (gapAt sl m).2 := by simp
  generalize hR : ((List.range (gapAt sl m).2).map fun i => (((gapAt sl m).1 + i : Nat) : Int)).map D.int = R at *
  unfold dG
  simp [-List.map_map, F_xlaw_due, denF, b_xlaw_due, c_xlaw_due, List.replicate, en, w', xg, l2]
theorem e_stretches {h : Ho} (V : Vk h) : F_stretches [dH h] [] = some (.ok (.lst ((strt h).map dP)), []) := by
  simp [F_stretches, denF, b_stretches, c_stretches, List.replicate, e_need_house V, e_all_stretches V.toVd]
theorem name_comp {h : Ho} (a1 : Option D) : denE (mkG [] []) (.comp (.ix (.v 2) (.c (.int 0))) (.nm 2) (.sq (.ix (.v 0) (.c (.int 0)))) .nil [2]) [some (dH h), a1, none] = some (.ok (.lst (h.sh.map fun s => D.str s.nm)), [some (dH h), a1, none]) :=
  comp_eq0 (enc := dSh) (xs := h.sh) (fun s => [some (dH h), a1, some (dSh s)]) (fun s => .str s.nm) (by simp) (fun s hs => by simp) (fun s hs => by simp [dSh]) (fun s hs => by simp)
theorem e_need_name {h : Ho} (V : Vd h) {s : Sh} (hs : s ∈ h.sh) : F_need_name [dH h, .str s.nm] [] = some (.ok .non, []) := by
  have c := name_comp (h := h) (some (.str s.nm))
  have i := in_lst (f := D.str) (fun a b => by simp) (l := h.sh.map (·.nm)) (x := s.nm) (fun y hy => by
    obtain ⟨u, hu, rfl⟩ := List.mem_map.mp hy
    exact (V.nmk u hu).1) (V.nmk s hs).1 (by simp)
  rw [decide_eq_true (List.mem_map.mpr ⟨s, hs, rfl⟩), List.map_map] at i
  have i2 : inD (.str s.nm) (.lst (h.sh.map fun s => D.str s.nm)) = some true := i
  simp [-d_comp, F_need_name, denF, b_need_name, c_need_name, List.replicate, c, i2]
theorem need_name_no {h : Ho} (V : Vd h) {x : Str} (hx : PyData.strOk x = true) (hn : ∀ s ∈ h.sh, s.nm ≠ x) : F_need_name [dH h, .str x] [] = some (.error ⟨1, none⟩, []) := by
  have c := name_comp (h := h) (some (.str x))
  have i := in_lst (f := D.str) (fun a b => by simp) (l := h.sh.map (·.nm)) (x := x) (fun y hy => by
    obtain ⟨u, hu, rfl⟩ := List.mem_map.mp hy
    exact (V.nmk u hu).1) hx (by simp)
  rw [decide_eq_false (fun z => by
    obtain ⟨u, hu, e⟩ := List.mem_map.mp z
    exact hn u hu e), List.map_map] at i
  have i2 : inD (.str x) (.lst (h.sh.map fun s => D.str s.nm)) = some false := i
  simp [-d_comp, F_need_name, denF, b_need_name, c_need_name, List.replicate, c, i2]
theorem need_name_no1 {h : Ho} {d : D} (hd : isiD d .str = some false) : F_need_name [dH h, d] [] = some (.error ⟨1, none⟩, []) := by
  simp [-d_comp, F_need_name, denF, b_need_name, c_need_name, List.replicate, hd]
theorem e_gap {h : Ho} (V : Vk h) {s : Sh} (hs : s ∈ h.sh) {m : M} (hm : OkM m) (hn : m ∉ allM h) : F_gap [dH h, .str s.nm, dM m] [] = some (.ok (dG (gapAt s.sl m)), []) := by
  have ga := e_gap_at (sl := s.sl) (low := m) (fun x hx => (V.mrk s hs x hx).sz) hm.sz
  unfold dG
  simp [F_gap, denF, b_gap, c_gap, List.replicate, e_need_house V, e_need_name V.toVd hs, e_need_mark V.toVd hm hn, e_slots_of V.toVd hs, ga]
theorem gap_m {h : Ho} (V : Vk h) {s : Sh} (hs : s ∈ h.sh) {d : D} (nm : F_need_mark [dH h, d] [] = some (.error ⟨2, none⟩, [])) : F_gap [dH h, .str s.nm, d] [] = some (.error ⟨2, none⟩, []) := by
  simp [F_gap, denF, b_gap, c_gap, List.replicate, e_need_house V, e_need_name V.toVd hs, nm]
theorem gap_n {h : Ho} (V : Vk h) {d : D} (nn : F_need_name [dH h, d] [] = some (.error ⟨1, none⟩, [])) (z : D) : F_gap [dH h, d, z] [] = some (.error ⟨1, none⟩, []) := by
  simp [F_gap, denF, b_gap, c_gap, List.replicate, e_need_house V, nn]
theorem gap_h {d : D} (h : F_is_house [d] [] = some (.ok (.bl false), [])) (y z : D) : F_gap [d, y, z] [] = some (.error ⟨0, none⟩, []) := by
  simp [F_gap, denF, b_gap, c_gap, List.replicate, need_no h]
theorem need_mark_old {h : Ho} (V : Vd h) {m : M} (hm : m ∈ allM h) : F_need_mark [dH h, dM m] [] = some (.error ⟨2, none⟩, []) := by
  have i := in_lstM (l := allM h) (m := m)
  rw [decide_eq_true hm] at i
  simp [F_need_mark, denF, b_need_mark, c_need_mark, e_all_marks V, e_is_mark (V.okA hm), i]
theorem is_whole_b (b : Bool) : F_is_whole [.bl b] [] = some (.ok (.bl false), []) := by
  simp [F_is_whole, denF, b_is_whole, c_is_whole]
theorem mk_t2 : F_is_mark [.tup [.bl true, .int 2]] [] = some (.ok (.bl false), []) := by
  simp [F_is_mark, denF, b_is_mark, c_is_mark, List.replicate, is_whole_b]
theorem mk_12 : F_is_mark [.lst [.int 1, .int 2]] [] = some (.ok (.bl false), []) := mk_no1 rfl
end K02

set_option maxRecDepth 100000
set_option maxHeartbeats 8000000
/-! ER02: the law. -/
namespace K02
open PySem PySem.Spec PyProof.Rows L2 Rf
theorem e_btw {n : Nat} {k : Dk} {B : Int} (hk : OkD n k) (hn : n ≤ 10000000) {l u : M} (hl : OkE l) (hu : OkE u) (h : lt l u = true) (b1 : l.2 ≤ B) (b2 : u.2 ≤ B) (hB : 6 * B < 10 ^ 30) :
    ∃ m k', F_xlaw_between [dM l, dM u] [dD k] = some (.ok (dM m), [dD k']) ∧ OkM m ∧ lt l m = true ∧ lt m u = true ∧ m.2 ≤ 6 * B ∧ OkD (n + 2) k' := by
  obtain ⟨i, k1, p1, i0, i3, o1⟩ := e_pick (L := 3) hk (by omega) (by decide) (by decide)
  obtain ⟨j, k2, p2, j0, j3, o2⟩ := e_pick (L := 3) o1 (by omega) (by decide) (by decide)
  have lc := hl.c
  have uc := hu.c
  have a1 : (1 + i) * l.2 ≤ 3 * l.2 := Int.mul_le_mul_of_nonneg_right (by omega) (by omega)
  have a2 : (1 + j) * u.2 ≤ 3 * u.2 := Int.mul_le_mul_of_nonneg_right (by omega) (by omega)
  obtain ⟨g1, g2, g3, g4⟩ := btw_ok (i := 1 + i) (j := 1 + j) hl hu h (by omega) (by omega) (by omega)
  have sz : Sz ((1 + i) * l.2 + (1 + j) * u.2) := Sz.num (by omega) (by omega)
  have xm := e_xmade (a := (1 + i) * l.1 + (1 + j) * u.1) (b := (1 + i) * l.2 + (1 + j) * u.2) g4 sz
  have rl := red_le (t := (1 + i) * l.1 + (1 + j) * u.1) g4
  refine ⟨_, k2, ?_, g1, g2, g3, by omega, o2⟩
  have s1 : Sz (1 + i) := Sz.num (by omega) (by omega)
  have s2 : Sz (1 + j) := Sz.num (by omega) (by omega)
  have m1 := mul_ok s1 hl.sz.1
  have m2 := mul_ok s1 hl.sz.2
  have m3 := mul_ok s2 hu.sz.1
  have m4 := mul_ok s2 hu.sz.2
  unfold dM at xm ⊢
  simp [F_xlaw_between, denF, b_xlaw_between, c_xlaw_between, List.replicate, p1, p2, m1, m2, m3, m4, xm]
theorem cut_m1 {α : Type} (L : List α) (x : α) : Rf.cutD (L ++ [x]) none (some (-1)) = L := by
  unfold Rf.cutD HT.sIx
  have e : (-1 + ((L ++ [x]).length : Int)).toNat = L.length := by
    rw [List.length_append, List.length_singleton]
    omega
  simp only [List.drop_zero, Nat.sub_zero]
  rw [if_pos (by decide), e, List.take_left]
noncomputable abbrev GL : Gam := mkGt exs [F_xlaw_deck, F_xlaw_house, F_xlaw_one, F_stretches, F_xlaw_same, F_xlaw_parted, F_xlaw_between, F_xlaw_due, F_gap, F_xlaw_marks] []
abbrev bGa : List Sm := [.ifs (.not (.call 4 (.cons (.call 8 (.cons (.v 3) (.cons (.v 9) (.cons (.v 8) .nil))) []) (.cons (.call 7 (.cons (.v 11) (.cons (.v 8) .nil)) []) .nil)) [])) [.ret [] (.c (.bl false))] []]
abbrev bSt : List Sm := [.set 8 (.call 6 (.cel 2 (.cons (.v 6) (.cons (.v 7) .nil))) [2]), .fr (.tp [(.nm 9), (.nm 10), (.nm 11)]) (.sq (.ix (.v 3) (.c (.int 0)))) bGa]
abbrev bNm : List Sm := [.ifs (.cmp .NotEq (.tri (.call 8 (.cons (.v 3) (.cons (.v 9) (.cons (.v 5) .nil))) [])) (.c (.str "NoMark+"))) [.ret [] (.c (.bl false))] []]
abbrev bOd : List Sm := [.fr (.nm 5) (.sq (.bin .Add (.lst (.cons (.c (.non)) (.cons (.tup (.cons (.c (.int 0)) (.cons (.c (.int 1)) .nil))) (.cons (.tup (.cons (.c (.int 1)) (.cons (.c (.int 1)) .nil))) (.cons (.tup (.cons (.c (.int 2)) (.cons (.c (.int 4)) .nil))) (.cons (.lst (.cons (.c (.int 1)) (.cons (.c (.int 2)) .nil))) (.cons (.tup (.cons (.c (.bl true)) (.cons (.c (.int 2)) .nil))) (.cons (.c (.int 7)) .nil)))))))) (.sl (.call 9 (.cons (.v 3) .nil) []) .no (.so (.c (.int 2)))))) bNm]
abbrev bNa : List Sm := [.ifs (.cmp .NotEq (.tri (.call 8 (.cons (.v 3) (.cons (.v 5) (.cons (.c (.non)) .nil))) [])) (.c (.str "NoName+"))) [.ret [] (.c (.bl false))] []]
abbrev bOu : List Sm := [.setO 2 (.call 0 (.cons (.v 1) (.cons (.c (.int 2)) .nil)) []), .set 3 (.call 1 (.cel 2 (.cons (.c (.int 5)) (.cons (.call 2 (.cel 2 (.cons (.lst (.cons (.c (.int 4)) (.cons (.c (.int 20)) .nil))) .nil)) [2]) (.cons (.c (.int 20)) .nil)))) [2]), .setO 4 (.call 3 (.cons (.v 3) .nil) []), .ifs (.not (.call 4 (.cons (.v 4) (.cons (.call 5 (.cons (.v 3) .nil) []) .nil)) [])) [.ret [] (.c (.bl false))] [], .fr (.tp [(.nm 6), (.nm 7)]) (.sq (.bi .list (.cons (.v 4) .nil))) bSt, .app 4 (.c (.non)), .ifs (.cmp .NotEq (.call 3 (.cons (.v 3) .nil) []) (.sl (.v 4) .no (.so (.neg (.c (.int 1)))))) [.ret [] (.c (.bl false))] [], .fr (.tp [(.nm 9), (.nm 10), (.nm 11)]) (.sq (.ix (.v 3) (.c (.int 0)))) bOd, .fr (.nm 5) (.sq (.lst (.cons (.c (.non)) (.cons (.c (.str "")) (.cons (.c (.str "zed")) (.cons (.c (.int 7)) (.cons (.tup (.cons (.c (.str "ash")) .nil)) .nil))))))) bNa, .ifs (.cmp .NotEq (.tri (.call 8 (.cons (.c (.non)) (.cons (.c (.non)) (.cons (.c (.non)) .nil))) [])) (.c (.str "NoHouse+"))) [.ret [] (.c (.bl false))] []]
theorem gap_go {h : Ho} (V : Vk h) {m : M} (hm : OkM m) (hn : m ∉ allM h) (a0 a1 a2 a4 a5 a6 a7 : Option D) : ∀ (l : List Sh) (x9 x10 x11 : Option D), (∀ s ∈ l, s ∈ h.sh) →
    ∃ y9 y10 y11, frD GL (.tp [(.nm 9), (.nm 10), (.nm 11)]) bGa (l.map dSh) [a0, a1, a2, some (dH h), a4, a5, a6, a7, some (dM m), x9, x10, x11] = some (.ok .nx, [a0, a1, a2, some (dH h), a4, a5, a6, a7, some (dM m), y9, y10, y11])
  | [], x9, x10, x11, _ => ⟨x9, x10, x11, rfl⟩
  | s :: l, x9, x10, x11, hl => by
    have hs := hl s List.mem_cons_self
    obtain ⟨y9, y10, y11, ih⟩ := gap_go V hm hn a0 a1 a2 a4 a5 a6 a7 l (some (.str s.nm)) (some (.tup (s.tk.map .str))) (some (.tup (s.sl.map dO))) fun q hq => hl q (List.mem_cons_of_mem _ hq)
    refine ⟨y9, y10, y11, ?_⟩
    have dsh : dSh s = D.tup [.str s.nm, .tup (s.tk.map .str), .tup (s.sl.map dO)] := rfl
    have eg := e_gap V hs hm hn
    have ed := e_xdueG hm (V.mrk s hs) (V.asc s hs) (fun z => hn (allM_mem.mpr ⟨s, hs, z⟩)) (V.s1 s hs).2
    have sm := e_same (d := dG (gapAt s.sl m)) (by simp [dG]) (by simp [dG])
    generalize dG (gapAt s.sl m) = G at *
    rw [← ih, List.map_cons, f_turn]
    simp [dsh, eg, ed, sm]
theorem str_go {h : Ho} (V : Vk h) (F : ∀ x ∈ allM h, x.2 ≤ 1000000000000000000) (a0 a1 a4 a5 : Option D) : ∀ (l : List (M × M)) (n : Nat) (k : Dk) (x6 x7 x8 x9 x10 x11 : Option D), (∀ s ∈ l, s ∈ strt h) → OkD n k → n + 2 * l.length ≤ 1000000 →
    ∃ k' y6 y7 y8 y9 y10 y11, frD GL (.tp [(.nm 6), (.nm 7)]) bSt (l.map dP) [a0, a1, some (dD k), some (dH h), a4, a5, x6, x7, x8, x9, x10, x11] = some (.ok .nx, [a0, a1, some (dD k'), some (dH h), a4, a5, y6, y7, y8, y9, y10, y11]) ∧ OkD (n + 2 * l.length) k'
  | [], n, k, x6, x7, x8, x9, x10, x11, _, hk, _ => ⟨k, x6, x7, x8, x9, x10, x11, rfl, hk⟩
  | s :: l, n, k, x6, x7, x8, x9, x10, x11, hl, hk, hn => by
    have hs := hl s List.mem_cons_self
    rw [List.length_cons] at hn
    obtain ⟨u1, u2, u3, u4⟩ := V.toVd.str.mp hs
    have eB : ∀ x ∈ ends h, x.2 ≤ 1000000000000000000 := fun x hx => by
      rcases ends_mem.mp hx with rfl | hx | rfl
      · decide
      · exact F x hx
      · decide
    obtain ⟨m, k1, q, m1, m2, m3, m4, o1⟩ := e_btw (B := 1000000000000000000) hk (by omega) (V.toVd.okEnd u1) (V.toVd.okEnd u2) u3 (eB _ u1) (eB _ u2) (by decide)
    have hn' := V.toVd.new hs m2 m3
    obtain ⟨z9, z10, z11, w⟩ := gap_go V m1 hn' a0 a1 (some (dD k1)) a4 a5 (some (dM s.1)) (some (dM s.2)) h.sh x9 x10 x11 fun _ z => z
    obtain ⟨k', y6, y7, y8, y9, y10, y11, ih, ok'⟩ := str_go V F a0 a1 a4 a5 l (n + 2) k1 (some (dM s.1)) (some (dM s.2)) (some (dM m)) z9 z10 z11 (fun q hq => hl q (List.mem_cons_of_mem _ hq)) o1 (by omega)
    refine ⟨k', y6, y7, y8, y9, y10, y11, ?_, by rw [List.length_cons, show n + 2 * (l.length + 1) = n + 2 + 2 * l.length by omega]; exact ok'⟩
    have dsh : dP s = .tup [dM s.1, dM s.2] := rfl
    rw [← ih, List.map_cons, f_turn]
    simp [dsh, q, w]
theorem nm_go {h : Ho} (V : Vk h) {s : Sh} (hs : s ∈ h.sh) (a0 a1 a2 a4 a6 a7 a8 a10 a11 : Option D) : ∀ (l : List D) (x5 : Option D), (∀ d ∈ l, F_need_mark [dH h, d] [] = some (.error ⟨2, none⟩, [])) →
    ∃ y5, frD GL (.nm 5) bNm l [a0, a1, a2, some (dH h), a4, x5, a6, a7, a8, some (.str s.nm), a10, a11] = some (.ok .nx, [a0, a1, a2, some (dH h), a4, y5, a6, a7, a8, some (.str s.nm), a10, a11])
  | [], x5, _ => ⟨x5, rfl⟩
  | d :: l, x5, hl => by
    obtain ⟨y5, ih⟩ := nm_go V hs a0 a1 a2 a4 a6 a7 a8 a10 a11 l (some d) fun q hq => hl q (List.mem_cons_of_mem _ hq)
    refine ⟨y5, ?_⟩
    have g := gap_m V hs (hl d List.mem_cons_self)
    rw [← ih, f_turn]
    simp [g, tr_NoMark, ok_NoMark]
def oddM : List D := [.non, .tup [.int 0, .int 1], .tup [.int 1, .int 1], .tup [.int 2, .int 4], .lst [.int 1, .int 2], .tup [.bl true, .int 2], .int 7]
theorem odd_no {h : Ho} (V : Vd h) : ∀ d ∈ oddM ++ ((allM h).map dM).take 2, F_need_mark [dH h, d] [] = some (.error ⟨2, none⟩, []) := by
  intro d hd
  rcases List.mem_append.mp hd with hd | hd
  · have : d = .non ∨ d = .tup [.int 0, .int 1] ∨ d = .tup [.int 1, .int 1] ∨ d = .tup [.int 2, .int 4] ∨ d = .lst [.int 1, .int 2] ∨ d = .tup [.bl true, .int 2] ∨ d = .int 7 := by simpa [oddM] using hd
    rcases this with rfl | rfl | rfl | rfl | rfl | rfl | rfl
    · exact need_mark_no (mk_no1 rfl)
    · exact need_mark_no mk_01
    · exact need_mark_no mk_11
    · exact need_mark_no mk_24
    · exact need_mark_no (mk_no1 rfl)
    · exact need_mark_no mk_t2
    · exact need_mark_no (mk_no1 rfl)
  · obtain ⟨m, hm, rfl⟩ := List.mem_map.mp (List.mem_of_mem_take hd)
    exact need_mark_old V hm
theorem od_go {h : Ho} (V : Vk h) (a0 a1 a2 a4 a6 a7 a8 : Option D) : ∀ (l : List Sh) (x5 x9 x10 x11 : Option D), (∀ s ∈ l, s ∈ h.sh) →
    ∃ y5 y9 y10 y11, frD GL (.tp [(.nm 9), (.nm 10), (.nm 11)]) bOd (l.map dSh) [a0, a1, a2, some (dH h), a4, x5, a6, a7, a8, x9, x10, x11] = some (.ok .nx, [a0, a1, a2, some (dH h), a4, y5, a6, a7, a8, y9, y10, y11])
  | [], x5, x9, x10, x11, _ => ⟨x5, x9, x10, x11, rfl⟩
  | s :: l, x5, x9, x10, x11, hl => by
    have hs := hl s List.mem_cons_self
    obtain ⟨z5, w⟩ := nm_go V hs a0 a1 a2 a4 a6 a7 a8 (some (.tup (s.tk.map .str))) (some (.tup (s.sl.map dO))) (oddM ++ ((allM h).map dM).take 2) x5 (odd_no V.toVd)
    obtain ⟨y5, y9, y10, y11, ih⟩ := od_go V a0 a1 a2 a4 a6 a7 a8 l z5 (some (.str s.nm)) (some (.tup (s.tk.map .str))) (some (.tup (s.sl.map dO))) fun q hq => hl q (List.mem_cons_of_mem _ hq)
    refine ⟨y5, y9, y10, y11, ?_⟩
    have dsh : dSh s = D.tup [.str s.nm, .tup (s.tk.map .str), .tup (s.sl.map dO)] := rfl
    have mk := e_xmarks V.toVd
    have c2 : Rf.cutD ((allM h).map dM) none (some 2) = ((allM h).map dM).take 2 := cut_to _ 2
    have tl : (((allM h).map dM).take 2).length ≤ 2 := by rw [List.length_take]; omega
    unfold oddM at w
    generalize hT : ((allM h).map dM).take 2 = T at *
    have l1 : 7 + T.length ≤ LIM := by rw [lim_num]; omega
    have l2 : T.length + 7 ≤ LIM := by rw [lim_num]; omega
    simp only [List.cons_append, List.nil_append] at w
    rw [← ih, List.map_cons, f_turn]
    simp [-List.map_take, dsh, mk, c2, l1, l2, w]
theorem na_go {h : Ho} (V : Vk h) (a0 a1 a2 a4 a6 a7 a8 a9 a10 a11 : Option D) : ∀ (l : List D) (x5 : Option D), (∀ d ∈ l, F_need_name [dH h, d] [] = some (.error ⟨1, none⟩, [])) →
    ∃ y5, frD GL (.nm 5) bNa l [a0, a1, a2, some (dH h), a4, x5, a6, a7, a8, a9, a10, a11] = some (.ok .nx, [a0, a1, a2, some (dH h), a4, y5, a6, a7, a8, a9, a10, a11])
  | [], x5, _ => ⟨x5, rfl⟩
  | d :: l, x5, hl => by
    obtain ⟨y5, ih⟩ := na_go V a0 a1 a2 a4 a6 a7 a8 a9 a10 a11 l (some d) fun q hq => hl q (List.mem_cons_of_mem _ hq)
    refine ⟨y5, ?_⟩
    have g := gap_n V (hl d List.mem_cons_self) .non
    rw [← ih, f_turn]
    simp [g, tr_NoName, ok_NoName]
theorem lay_P (l : List (M × M)) : lay (.lst (l.map dP)) = true ∧ dep (.lst (l.map dP)) ≤ 5 := by
  constructor
  · rw [lay_l, layL_all, List.all_eq_true]
    intro d hd
    obtain ⟨r, hr, rfl⟩ := List.mem_map.mp hd
    simp
  · rw [dep_l]
    have := depL_le (n := 2) (l := l.map dP) fun d hd => by
      obtain ⟨r, hr, rfl⟩ := List.mem_map.mp hd
      simp
    omega
theorem outer_go (a0 : Option D) : ∀ (xs : List Int) (x1 x2 x3 x4 x5 x6 x7 x8 x9 x10 x11 : Option D), ∃ e', frD GL (.nm 1) bOu (xs.map .int) [a0, x1, x2, x3, x4, x5, x6, x7, x8, x9, x10, x11] = some (.ok .nx, e')
  | [], x1, x2, x3, x4, x5, x6, x7, x8, x9, x10, x11 => ⟨_, rfl⟩
  | x :: xs, x1, x2, x3, x4, x5, x6, x7, x8, x9, x10, x11 => by
    obtain ⟨k, hk, q⟩ := e_deck x 2 (by decide)
    have io : isOb (dD k) = true := rfl
    obtain ⟨d1, k1, m1, q1, o1⟩ := e_one (xs := [.int 4, .int 20]) hk (by omega) (by simp) (by simp)
    obtain ⟨w, rfl, w1, w2⟩ : ∃ w : Nat, d1 = .int (w : Int) ∧ 1 ≤ w ∧ w ≤ 20 := by
      have : d1 = .int 4 ∨ d1 = .int 20 := by simpa using m1
      rcases this with rfl | rfl
      · exact ⟨4, rfl, by decide, by decide⟩
      · exact ⟨20, rfl, by decide, by decide⟩
    obtain ⟨h, k2, q2, d, o2⟩ := e_house (most := 5) (wide := w) (marked := 20) o1 (by omega) (by omega) w1 w2 (by omega)
    have q2' : F_xlaw_house [.int 5, .int (w : Int), .int 20] [dD k1] = some (.ok (dH h), [dD k2]) := q2
    have V := d.vk
    have st := e_stretches V
    have xp := e_xparted V.toVd
    have sl := strt_len V.toVd
    obtain ⟨ly, dp⟩ := lay_P (strt h)
    have sm := e_same ly (by omega)
    have oks : okEq (.lst ((strt h).map dP)) (.lst ((strt h).map dP)) = true := okEq_of ly ly (.inl (by omega))
    have eqs := eqD_self _ ly
    obtain ⟨k3, y6, y7, y8, y9, y10, y11, w3, o3⟩ := str_go V d.low a0 (some (.int x)) (some (.lst ((strt h).map dP))) x5 (strt h) _ k2 x6 x7 x8 x9 x10 x11 (fun _ z => z) o2 (by omega)
    obtain ⟨L, hL⟩ : ∃ L, L = (strt h).map dP := ⟨_, rfl⟩
    have lL : L.length < LIM := by rw [hL, List.length_map, lim_num]; omega
    have l1 : L.length ≤ LIM := by omega
    rw [← hL] at st xp sm oks eqs w3
    obtain ⟨z5, z9, z10, z11, w4⟩ := od_go V a0 (some (.int x)) (some (dD k3)) (some (.lst (L ++ [.non]))) y6 y7 y8 h.sh x5 y9 y10 y11 fun _ z => z
    obtain ⟨v5, w5⟩ := na_go V a0 (some (.int x)) (some (dD k3)) (some (.lst (L ++ [.non]))) y6 y7 y8 z9 z10 z11 [.non, .str "", .str "zed", .int 7, .tup [.str "ash"]] z5 (by
      intro dd hd
      have : dd = .non ∨ dd = .str "" ∨ dd = .str "zed" ∨ dd = .int 7 ∨ dd = .tup [.str "ash"] := by simpa using hd
      rcases this with rfl | rfl | rfl | rfl | rfl
      · exact need_name_no1 rfl
      · exact need_name_no V.toVd ok_empty fun s hs => (V.nmk s hs).2
      · exact need_name_no V.toVd (by decide +kernel) fun s hs e => by
          have := d.nmem hs
          rw [e] at this
          revert this
          decide +kernel
      · exact need_name_no1 rfl
      · exact need_name_no1 rfl)
    have gh := gap_h (d := .non) (ho_no1 rfl) .non .non
    have cm := cut_m1 L D.non
    obtain ⟨e', ih⟩ := outer_go a0 xs (some (.int x)) (some (dD k3)) (some (dH h)) (some (.lst (L ++ [.non]))) v5 y6 y7 y8 z9 z10 z11
    refine ⟨e', ?_⟩
    have bl : biD .list [.lst L] = some (.lst L) := rfl
    rw [List.map_cons, f_turn, ← ih]
    simp [-eq_ll, q, io, q1, q2', st, xp, sm, bl, w3, lstAt, lL, l1, cm, oks, eqs, w4, w5, gh, tr_NoHouse, ok_NoHouse]
theorem law_true (ns : List Int) (hl : ns.length ≤ 63) : F_law [.lst (ns.map .int)] [] = some (.ok (.bl true), []) := by
  obtain ⟨e', w⟩ := outer_go (some (.lst (ns.map .int))) ((0 :: ns).take 8) none none none none none none none none none none none
  have l1 : ns.length + 1 ≤ LIM := by rw [lim_num]; omega
  have l2 : 1 + ns.length ≤ LIM := by rw [lim_num]; omega
  have c4 : Rf.cutD (D.int 0 :: ns.map D.int) none (some 8) = ((0 :: ns).take 8).map .int := by
    have := cut_to (D.int 0 :: ns.map D.int) 8
    rw [List.map_take]
    exact this
  simp only [F_law, denF, b_law, c_law]
  simp [-List.take_succ_cons, -List.map_take, List.replicate, l1, l2, c4, w]
end K02

set_option maxRecDepth 100000
set_option maxHeartbeats 4000000
namespace K02
open PySem PySem.Spec PyProof.Rows L2 Rf
variable [TN]
def nmI : Nat := 54
theorem nm_gl2 : nmG.all (fun c => glB (defScope (top nmI)) c) = true := by decide +kernel
theorem nm_loc : (["_law_e", "_law_kinds_met", "_law_words"] : List Str).all (fun c => decide ((defScope (top nmI)).names.lookup c = some .local)) = true := by decide +kernel
theorem nm_pss {X : Cx} {a D : Addr} {oe : Obj} {kb : Str → Bool} (F : NmF X a D oe kb nmC) (hN : X.N = nmN) (hsc : X.env.scope = defScope (top nmI)) (hfn : ∀ n, X.fn n = true) (hot : L2H.Hot1 X.A (a, oe)) (hgz : Gl X "zip") (hmz : X.mg "zip" = none) :
    PSs X (defBody (top nmI)) (tSeq (tAsg (tI0 a [kb "NoHouse", kb "NoName", kb "NoColour", kb "NoMark"]) (gName 1)) ((tSeq (tAsg (tCat 1 (fun σ => σ[0]? = some (some (.ref a))) (([kb "NoAnswer", kb "NoSlot", kb "NoNumber"] : List Bool).map .bl)) (gName 1)) (tSeq (tAsg (tCat 1 (fun σ => σ[0]? = some (some (.ref a))) (([kb "NoTakes", kb "NoBook", kb "NoTints"] : List Bool).map .bl)) (gName 1)) (tSeq (tAsg (tCat 1 (fun σ => σ[0]? = some (some (.ref a))) (([kb "NoSlots", kb "NoShelf", kb "NoJoin"] : List Bool).map .bl)) (gName 1)) (tSeq (tAsg (tCat 1 (fun σ => σ[0]? = some (some (.ref a))) (([kb "NotNow", kb "NotFree", kb "Taken"] : List Bool).map .bl)) (gName 1)) (tSeq (tAsg (tCat 1 (fun σ => σ[0]? = some (some (.ref a))) (([kb "NothingLeft", kb "TooMany", kb "Wrong"] : List Bool).map .bl)) (gName 1)) (tSeq (tAsg (tS0 ["NoHouse", "NoName", "NoColour", "NoMark", "NoAnswer", "NoSlot", "NoNumber", "NoTakes", "NoBook"]) (gName 2)) (tSeq (tAsg (tCat 2 (fun _ => True) ((["NoTints", "NoSlots", "NoShelf", "NoJoin", "NotNow", "NotFree", "Taken", "NothingLeft"] : List Str).map .str)) (gName 2)) (tSeq (tAsg (tCat 2 (fun _ => True) ((["TooMany", "Wrong", "+"] : List Str).map .str)) (gName 2)) (tRet (tNm X.K fun σ => σ[0]? = some (some (.ref a)))))))))))))) := by
  have nd : X.N.Nodup := by rw [hN]; decide
  have lo : ∀ c ∈ (["_law_e", "_law_kinds_met", "_law_words"] : List Str), X.env.scope.names.lookup c = some .local := fun c hc => by
    rw [hsc]
    exact of_decide_eq_true (List.all_eq_true.mp nm_loc c hc)
  have v0 : ∀ q : Pos, PE X (.Name "_law_e" q) (tVar 0) := fun q => pe_var (by rw [hN]; rfl) (.inl (lo _ (by decide)))
  have v1 : ∀ q : Pos, PE X (.Name "_law_kinds_met" q) (tVar 1) := fun q => pe_var (by rw [hN]; rfl) (.inl (lo _ (by decide)))
  have v2 : ∀ q : Pos, PE X (.Name "_law_words" q) (tVar 2) := fun q => pe_var (by rw [hN]; rfl) (.inl (lo _ (by decide)))
  have l1 : Loc X.env.scope "_law_kinds_met" := .inl (lo _ (by decide))
  have l2 : Loc X.env.scope "_law_words" := .inl (lo _ (by decide))
  have n1 : X.N[1]? = some ("_law_kinds_met" : Str) := by rw [hN]; rfl
  have n2 : X.N[2]? = some ("_law_words" : Str) := by rw [hN]; rfl
  refine pss_cons (ps_set (i := 1) nd n1 l1 (pe_lstIs (.cons (pe_isG F v0 (c := "NoHouse") (by decide)) rfl (.cons (pe_isG F v0 (c := "NoName") (by decide)) rfl (.cons (pe_isG F v0 (c := "NoColour") (by decide)) rfl (.cons (pe_isG F v0 (c := "NoMark") (by decide)) rfl .nil)))) (by simp)) (by rfl) (.inl (hfn _))) ?_
  refine pss_cons (ps_set (i := 1) nd n1 l1 (pe_catVar (B := fun σ => σ[0]? = some (some (.ref a))) (v1 _) (pe_lstIs (.cons (pe_isG F v0 (c := "NoAnswer") (by decide)) rfl (.cons (pe_isG F v0 (c := "NoSlot") (by decide)) rfl (.cons (pe_isG F v0 (c := "NoNumber") (by decide)) rfl .nil))) (by simp))) (by rfl) (.inl (hfn _))) ?_
  refine pss_cons (ps_set (i := 1) nd n1 l1 (pe_catVar (B := fun σ => σ[0]? = some (some (.ref a))) (v1 _) (pe_lstIs (.cons (pe_isG F v0 (c := "NoTakes") (by decide)) rfl (.cons (pe_isG F v0 (c := "NoBook") (by decide)) rfl (.cons (pe_isG F v0 (c := "NoTints") (by decide)) rfl .nil))) (by simp))) (by rfl) (.inl (hfn _))) ?_
  refine pss_cons (ps_set (i := 1) nd n1 l1 (pe_catVar (B := fun σ => σ[0]? = some (some (.ref a))) (v1 _) (pe_lstIs (.cons (pe_isG F v0 (c := "NoSlots") (by decide)) rfl (.cons (pe_isG F v0 (c := "NoShelf") (by decide)) rfl (.cons (pe_isG F v0 (c := "NoJoin") (by decide)) rfl .nil))) (by simp))) (by rfl) (.inl (hfn _))) ?_
  refine pss_cons (ps_set (i := 1) nd n1 l1 (pe_catVar (B := fun σ => σ[0]? = some (some (.ref a))) (v1 _) (pe_lstIs (.cons (pe_isG F v0 (c := "NotNow") (by decide)) rfl (.cons (pe_isG F v0 (c := "NotFree") (by decide)) rfl (.cons (pe_isG F v0 (c := "Taken") (by decide)) rfl .nil))) (by simp))) (by rfl) (.inl (hfn _))) ?_
  refine pss_cons (ps_set (i := 1) nd n1 l1 (pe_catVar (B := fun σ => σ[0]? = some (some (.ref a))) (v1 _) (pe_lstIs (.cons (pe_isG F v0 (c := "NothingLeft") (by decide)) rfl (.cons (pe_isG F v0 (c := "TooMany") (by decide)) rfl (.cons (pe_isG F v0 (c := "Wrong") (by decide)) rfl .nil))) (by simp))) (by rfl) (.inl (hfn _))) ?_
  refine pss_cons (ps_set (i := 2) nd n2 l2 (pe_lstS (.cons (.cons (.cons (.cons (.cons (.cons (.cons (.cons (.cons .nil))))))))) (by decide)) (by rfl) (.inl (hfn _))) ?_
  refine pss_cons (ps_set (i := 2) nd n2 l2 (pe_catVar (B := fun _ => True) (v2 _) (pe_lstS (.cons (.cons (.cons (.cons (.cons (.cons (.cons (.cons .nil)))))))) (by decide))) (by rfl) (.inl (hfn _))) ?_
  refine pss_cons (ps_set (i := 2) nd n2 l2 (pe_catVar (B := fun _ => True) (v2 _) (pe_lstS (.cons (.cons (.cons .nil))) (by decide))) (by rfl) (.inl (hfn _))) ?_
  refine pss_one (ps_ret (pe_join pe_str (pe_lcH (own := [("_law_word", 3), ("_law_good", 4)]) (a, oe) F.p hot nd (pip_zip hgz hmz (pa_cons (v2 _) (pa_cons (pe_catVar (B := fun σ => σ[0]? = some (some (.ref a))) (v1 _) (pe_lstIs (.cons (pe_isV F v0) rfl .nil) (by simp))) pa_nil (star_cons rfl)) (star_cons rfl)) rfl rfl) ?ok ?tg ?ts ?el rfl) (by rfl) (by rfl) (by rfl)))
  case ok =>
    have r : ScR X (defScope (top nmI)) := { l := fun n h => by rw [hsc]; exact h, c := fun n h => ⟨by rw [hsc]; exact h, hfn n⟩, f := fun n h => by rw [hsc]; exact .inr h, g := fun n h => by rw [hsc]; exact h, k := by rw [hsc]; rfl }
    exact r.blkOk hN (by decide +kernel)
  case tg =>
    intro s H C cl fp
    exact pgp_tup hot (pgs_cons (pg_name (i := 3) nd (by show X.N[3]? = _; rw [hN]; rfl) (.inl (by rfl)) (.inr (by rfl))) (pgs_cons (pg_name (i := 4) nd (by show X.N[4]? = _; rw [hN]; rfl) (.inl (by rfl)) (.inr (by rfl))) pgs_nil)) rfl rfl
  case ts =>
    intro s H C cl fp
    exact pts_one (pt_truth (pe_var (i := 4) (by show X.N[4]? = _; rw [hN]; rfl) (.inl (by rfl))) (fun whole => rfl))
  case el =>
    intro s H C cl fp
    exact pe_var (i := 3) (by show X.N[3]? = _; rw [hN]; rfl) (.inl (by rfl))
/-! ### the promise -/
theorem nm_sc : FnScope nmN ["_law_e"] (defScope (top nmI)) := ⟨rfl, rfl, rfl, by decide +kernel, by decide +kernel, by decide +kernel, by decide +kernel⟩
theorem nm_ok {P : Program} {w : World} {K : PySem.W.Frag} {mg : Str → Option Value} {base : Heap} {f : Addr} {fd : FuncData} (M : NmK K mg) (F : FunD K "_law_name_of" "_law_name_of" (defArgs (top nmI)) (defBody (top nmI)) (defScope (top nmI)) [] [] f fd) :
    FnP P w K mg base C8.CX0 1 f fd ["_law_e"] (spNm K) := by
  obtain ⟨oc, od, dV, kV, doc, pm, an, cdv, ct, osl, rfl, lk, hcd, _, _⟩ := F.ex
  refine fnP_of lk hcd nm_sc (fun p vs H Q E h => by rw [h.1]; rfl) ?_
  intro A outer s H vs Q E p hot room h
  obtain ⟨rfl, x, X, hz, hf, hQ⟩ := h
  obtain ⟨a, oe⟩ := p
  have gl : ∀ c, c ∈ nmG → Gl (L2H.cxH C8.CX0 P w K mg base nmN "_law_name_of" (defScope (top nmI)) f cdv A outer s H E (a, oe)) c ∧ (c == ("__debug__" : Str)) = false := fun c hc => by
    have h1 := List.all_eq_true.mp nm_gl2 c hc
    unfold glB at h1
    rw [Bool.and_eq_true, decide_eq_true_eq] at h1
    refine ⟨h1.1, ?_⟩
    have h2 := h1.2
    unfold notDbg at h2
    rw [Bool.and_eq_true] at h2
    simpa using h2.1
  have NF : NmF (L2H.cxH C8.CX0 P w K mg base nmN "_law_name_of" (defScope (top nmI)) f cdv A outer s H E (a, oe)) a (He.ga K x) oe (fun c => decide (c = x)) nmC := {
    p := List.mem_cons_self, C := X.C, hz := hz, hf := hf
    hgI := (gl "isinstance" (by decide)).1, hmI := M.isI
    hgV := (gl "ValueError" (by decide)).1, hmV := M.vE, kV := X.kV
    gl := fun c hc => ⟨(gl c (List.mem_append_left _ hc)).1, (gl c (List.mem_append_left _ hc)).2, _, M.cl c hc, X.kit c hc⟩ }
  refine ⟨_, nm_pss NF rfl rfl (fun _ => rfl) hot (gl "zip" (by decide)).1 M.zip, ?_⟩
  have s0 : StN a H [] [] (L2.start nmN [.ref a]) H := ⟨rfl, rfl, fun _ _ h => h, fun z => absurd rfl z, fun z => absurd rfl z⟩
  refine st_k0 s0 fun σ H1 s1 => ?_
  refine st_k1 s1 (by simp) (by simp) fun σ H1 s2 => ?_
  refine st_k1 s2 (by simp) (by simp) fun σ H1 s3 => ?_
  refine st_k1 s3 (by simp) (by simp) fun σ H1 s4 => ?_
  refine st_k1 s4 (by simp) (by simp) fun σ H1 s5 => ?_
  refine st_k1 s5 (by simp) (by simp) fun σ H1 s6 => ?_
  refine st_w0 s6 fun σ H1 s7 => ?_
  refine st_w1 s7 (by simp) (by simp) fun σ H1 s8 => ?_
  refine st_w1 s8 (by simp) (by simp) fun σ H1 s9 => ?_
  exact st_ret s9 (by simp) (by simp) (by simp) (by simp) X.len fun H' g => hQ H' g
/-! ### _law_try -/
def tyI : Nat := 55
theorem ty_sc : FnScope tyN ["_law_door"] (defScope (top tyI)) := ⟨rfl, rfl, rfl, by decide +kernel, by decide +kernel, by decide +kernel, by decide +kernel⟩
theorem ty_loc : tyN.all (fun c => decide ((defScope (top tyI)).names.lookup c = some .local)) = true := by decide +kernel
theorem ty_gl : tyG.all (fun c => glB (defScope (top tyI)) c) = true := by decide +kernel
theorem try_gives {X : Cx} {k : Nat} {g f : Addr} {cdg : Value} {q : Str} {fd : FuncData} (M : NmK X.K X.mg) (FN : FnP X.prog X.w X.K X.mg X.base C8.CX0 1 f fd ["_law_e"] (spNm X.K)) (hm : X.mg "_law_name_of" = some (.ref f)) (hk : PySem.W.keepIn X.K (.ref f) = true) (hb : Binds X.K fd ["_law_e"] []) :
    GivesN X (k + 1) tyN "_law_try" (defScope (top tyI)) g cdg (defBody (top tyI)) "_law_door" q (TTry X.K) := by
  intro fl c' s H Q tl room mono act hc h
  have gl : ∀ c, c ∈ tyG → (defScope (top tyI)).names.lookup c = some .globalImplicit ∧ (c == ("__debug__" : Str)) = false := fun c hc => by
    have h1 := List.all_eq_true.mp ty_gl c hc
    unfold glB at h1
    rw [Bool.and_eq_true, decide_eq_true_eq] at h1
    refine ⟨h1.1, ?_⟩
    have h2 := h1.2
    unfold notDbg at h2
    rw [Bool.and_eq_true] at h2
    simpa using h2.1
  have lo : ∀ c ∈ tyN, (defScope (top tyI)).names.lookup c = some .local := fun c hc => of_decide_eq_true (List.all_eq_true.mp ty_loc c hc)
  have nd : tyN.Nodup := by decide
  refine ⟨_, pss_cons (ps_set (i := 1) (x := "_law_found") nd rfl (.inl (lo _ (by decide))) pe_non (by rfl) (.inl rfl)) (pss_cons (ps_try_ms (Wout := fun _ _ _ _ => False)
    (tb := fun W D σ H => ∃ Ech : XK, (∀ cls d H', Ech cls d H' → W cls d σ H') ∧ σ[0]? = some (some (.ref fl)) ∧ H c' = some (LamX.CodeO c' q) ∧ tl Ech H fun v H1 => ∀ T, H1 T = none → D.nx (σ.set 1 (some (.ref T))) (upd H1 T (.tup [.str "told", v])))
    (l := [(.ref (He.ga X.K "TooMany"), 2, fun _ _ _ _ _ _ => False), (.ref (He.ga X.K "Wrong"), 2, fun _ _ _ _ _ _ => False), (.ref (He.ga X.K "HouseError"), 2, tsN X.K)])
    rfl rfl nd takesF ?body ?hds) (pss_one (ps_ret (pe_var (i := 1) (x := "_law_found") rfl (.inl (lo _ (by decide))))))), ?fin⟩
  case body =>
    intro W pn xe tk _
    refine ⟨fun pins s' σ H' D I hyp => ?_⟩
    obtain ⟨Ech, hW, h0, h1, h2⟩ := hyp
    have hp := act W pn xe Ech
    refine (pss_one (ps_set (i := 1) (x := "_law_found") nd rfl (.inl (lo _ (by decide))) (pe_tup (pa_cons pe_str (pa_cons (hp _ _ tk) pa_nil))) (by rfl) (.inl rfl))).run pins s' σ H' D I ?_
    refine ⟨hW, h0, h1, mono _ _ _ _ (fun v H1 hq => ?_) h2⟩
    exact ⟨by show (2 : Nat) ≤ sizeLine; rw [sizeLine_eq]; decide, hq⟩
  case hds =>
    refine .cons ⟨(gl "TooMany" (by decide)).1, (gl "TooMany" (by decide)).2, .inl (M.cl _ (by decide))⟩ rfl (lo _ (by decide)) (fun a oe cls d pn hz hf => ⟨fun _ _ _ _ _ _ z => z.elim⟩) ?_
    refine .cons ⟨(gl "Wrong" (by decide)).1, (gl "Wrong" (by decide)).2, .inl (M.cl _ (by decide))⟩ rfl (lo _ (by decide)) (fun a oe cls d pn hz hf => ⟨fun _ _ _ _ _ _ z => z.elim⟩) ?_
    refine .cons ⟨(gl "HouseError" (by decide)).1, (gl "HouseError" (by decide)).2, .inl M.hE⟩ rfl (lo _ (by decide)) (fun a oe cls d pn hz hf => ⟨fun pins s' σ H' D I hyp => ?_⟩) .nil
    obtain ⟨x, XF, rfl, rfl, e2, hQ⟩ := hyp
    refine (pss_one (ps_set (i := 1) (x := "_law_found") nd rfl (.inl (lo _ (by decide))) (pe_callP (X := (cxG X tyN "_law_try" (defScope (top tyI)) g cdg s H).nox.suite a ((a, oe) :: pn)) (E := fun _ => C8.E0) FN ?room ?hot List.mem_cons_self (gl "_law_name_of" (by decide)).1 hm hk hb (fun σ => fun _ _ _ _ _ _ z => z.elim) (pa_cons (pe_var (i := 2) (x := "_law_e") rfl (.inl (lo _ (by decide)))) pa_nil)) (by rfl) (.inl rfl))).run pins s' σ H' D I ?_
    case room =>
      have r1 := room.dp
      have r2 := room.un
      refine ⟨?_, ?_⟩
      · show (X.A.deeper (envOfC "_law_try" (defScope (top tyI)) s.heap.objs.size g cdg)).depth + 3 * 1 + 5 < _
        omega
      · show (X.A.deeper (envOfC "_law_try" (defScope (top tyI)) s.heap.objs.size g cdg)).units + 16 * 1 + 200 < _
        omega
    case hot =>
      obtain ⟨vs, hv⟩ := hf
      exact ⟨rfl, vs, hv, hz.2.2 vs hv⟩
    exact ⟨_, e2, rfl, x, XF, hz.zc, hf, hQ⟩
  case fin =>
    refine ⟨fun cls dd H' => ∃ x : Str, ExcF X.K x ∧ cls = .ref (He.ga X.K x) ∧ dd = none ∧ ∀ H2, Grow H' H2 → Q (.str (nmOf x)) H2, ?_, rfl, hc, ?_⟩
    · rintro cls d H' ⟨x, XF, rfl, rfl, hQ⟩
      refine ⟨false, XF.e1, (fun z => nomatch z), fun _ => ⟨false, XF.e2, (fun z => nomatch z), fun _ => ⟨true, XF.e3, (fun _ a ha => ⟨x, XF, rfl, rfl, rfl, fun H2 gr => ⟨_, rfl, hQ H2 gr⟩⟩), (fun z => nomatch z)⟩⟩⟩
    · exact mono _ _ _ _ (fun v H1 hq T hT => ⟨_, rfl, hq T hT⟩) h
theorem law_tri {P : Program} {w : World} {K : PySem.W.Frag} {mg : Str → Option Value} {base : Heap} {ca : Nat → Addr} {cf : Nat → Str} {C : Cfg} {G : Gam} {pk : List PK} {sc : Scope} {k : Nat} {fN : Addr} {fdN fdT : FuncData} {lf g c PT : Addr} (M : NmK K mg)
    (FN : FunD K "_law_name_of" "_law_name_of" (defArgs (top nmI)) (defBody (top nmI)) (defScope (top nmI)) [] [] fN fdN) (hmN : mg "_law_name_of" = some (.ref fN))
    (FT : FunD K "_law_try" "_law_try" (defArgs (top tyI)) (defBody (top tyI)) (defScope (top tyI)) [] [] g fdT) (hmT : mg "_law_try" = some (.ref g))
    (hT : TriT K ca cf G (TTry K)) (TB : LamX.TabB base mg c PT) (htn : TN.tn PT = (PySem.W.envX "law" sc 0 lf (.ref c) []).qual ++ "<lambda>") (hc : ∀ cdv, CodeAt K lf cdv → cdv = .ref c)
    (hf : ∀ (j : Nat) I, C.fns[j]? = some I → St P w K mg base ca cf I (G.fn j) (k + 1)) :
    ∀ cdv, CodeAt K lf cdv → ∀ (A : Around) (outer : List Env) (s : Shared) (H : Hp) (E : XK) (S : AS) (vs : List V), TabQ H PT → Room (k + 3) (A.deeper (envOfC "law" sc s.heap.objs.size lf cdv)) →
      TriOk (cxOf (L2N.CX P w) P w K mg base C.N "law" sc lf cdv A outer s H E) C G (Ac.of K C ca cf pk S H vs E) := by
  intro cdv hcv A outer s H E S vs hq room
  have e := hc cdv hcv
  subst e
  obtain ⟨oc, od, dV, kV, doc, pm, an, cdT, ct, osl, rfl, lk, hcd, _, _⟩ := FT.ex
  have bT := L2.FunD.bindsN (ps := ["_law_door"]) FT fun _ _ _ _ _ _ us hl => match us, hl with | [_], _ => rfl
  have bN := L2.FunD.bindsN (ps := ["_law_e"]) FN fun _ _ _ _ _ _ us hl => match us, hl with | [_], _ => rfl
  refine ⟨g, c, PT, k + 1, "_law_door", _, _, _, dV, kV, doc, pm, cdT, ct, oc, an, od, osl, tyN, TTry K, hmT, FT.kp, lk, hcd, bT, ty_sc, rfl, .inl (of_decide_eq_true (List.all_eq_true.mp ty_loc "_law_door" (by decide))), ⟨by decide, by decide⟩, ?_, TB, rfl, room, htn, hq, hT, fun j I hI => hf j I hI⟩
  exact try_gives M (nm_ok M FN) hmN FN.kp bN
end K02

set_option maxRecDepth 100000
set_option maxHeartbeats 0
namespace K02
open PySem PySem.Spec PyProof.Rows L2 Rf
theorem ck_made : chkSs c_made (defScope (top 22)) b_made (defBody (top 22)) = true := by decide +kernel
theorem sc_made : FnScope c_made.N ["top", "bottom"] (defScope (top 22)) := ⟨rfl, rfl, rfl, by decide +kernel, by decide +kernel, by decide +kernel, by decide +kernel⟩
theorem ck_less : chkSs c_less (defScope (top 23)) b_less (defBody (top 23)) = true := by decide +kernel
theorem sc_less : FnScope c_less.N ["one", "other"] (defScope (top 23)) := ⟨rfl, rfl, rfl, by decide +kernel, by decide +kernel, by decide +kernel, by decide +kernel⟩
theorem ck_in_order : chkSs c_in_order (defScope (top 24)) b_in_order (defBody (top 24)) = true := by decide +kernel
theorem sc_in_order : FnScope c_in_order.N ["parts"] (defScope (top 24)) := ⟨rfl, rfl, rfl, by decide +kernel, by decide +kernel, by decide +kernel, by decide +kernel⟩
theorem ck_is_whole : chkSs c_is_whole (defScope (top 32)) b_is_whole (defBody (top 32)) = true := by decide +kernel
theorem sc_is_whole : FnScope c_is_whole.N ["thing"] (defScope (top 32)) := ⟨rfl, rfl, rfl, by decide +kernel, by decide +kernel, by decide +kernel, by decide +kernel⟩
theorem ck_is_from : chkSs c_is_from (defScope (top 33)) b_is_from (defBody (top 33)) = true := by decide +kernel
theorem sc_is_from : FnScope c_is_from.N ["thing", "low", "high"] (defScope (top 33)) := ⟨rfl, rfl, rfl, by decide +kernel, by decide +kernel, by decide +kernel, by decide +kernel⟩
theorem ck_is_name : chkSs c_is_name (defScope (top 34)) b_is_name (defBody (top 34)) = true := by decide +kernel
theorem sc_is_name : FnScope c_is_name.N ["thing"] (defScope (top 34)) := ⟨rfl, rfl, rfl, by decide +kernel, by decide +kernel, by decide +kernel, by decide +kernel⟩
theorem ck_is_mark : chkSs c_is_mark (defScope (top 35)) b_is_mark (defBody (top 35)) = true := by decide +kernel
theorem sc_is_mark : FnScope c_is_mark.N ["thing"] (defScope (top 35)) := ⟨rfl, rfl, rfl, by decide +kernel, by decide +kernel, by decide +kernel, by decide +kernel⟩
theorem ck_marks_of : chkSs c_marks_of (defScope (top 36)) b_marks_of (defBody (top 36)) = true := by decide +kernel
theorem sc_marks_of : FnScope c_marks_of.N ["slots"] (defScope (top 36)) := ⟨rfl, rfl, rfl, by decide +kernel, by decide +kernel, by decide +kernel, by decide +kernel⟩
theorem ck_are_slots : chkSs c_are_slots (defScope (top 37)) b_are_slots (defBody (top 37)) = true := by decide +kernel
theorem sc_are_slots : FnScope c_are_slots.N ["thing"] (defScope (top 37)) := ⟨rfl, rfl, rfl, by decide +kernel, by decide +kernel, by decide +kernel, by decide +kernel⟩
theorem ck_are_colours : chkSs c_are_colours (defScope (top 38)) b_are_colours (defBody (top 38)) = true := by decide +kernel
theorem sc_are_colours : FnScope c_are_colours.N ["thing", "most"] (defScope (top 38)) := ⟨rfl, rfl, rfl, by decide +kernel, by decide +kernel, by decide +kernel, by decide +kernel⟩
theorem ck_are_takes : chkSs c_are_takes (defScope (top 39)) b_are_takes (defBody (top 39)) = true := by decide +kernel
theorem sc_are_takes : FnScope c_are_takes.N ["colours", "thing"] (defScope (top 39)) := ⟨rfl, rfl, rfl, by decide +kernel, by decide +kernel, by decide +kernel, by decide +kernel⟩
theorem ck_is_shelf : chkSs c_is_shelf (defScope (top 40)) b_is_shelf (defBody (top 40)) = true := by decide +kernel
theorem sc_is_shelf : FnScope c_is_shelf.N ["colours", "thing"] (defScope (top 40)) := ⟨rfl, rfl, rfl, by decide +kernel, by decide +kernel, by decide +kernel, by decide +kernel⟩
theorem ck_all_marks : chkSs c_all_marks (defScope (top 42)) b_all_marks (defBody (top 42)) = true := by decide +kernel
theorem sc_all_marks : FnScope c_all_marks.N ["house"] (defScope (top 42)) := ⟨rfl, rfl, rfl, by decide +kernel, by decide +kernel, by decide +kernel, by decide +kernel⟩
theorem ck_is_house : chkSs c_is_house (defScope (top 41)) b_is_house (defBody (top 41)) = true := by decide +kernel
theorem sc_is_house : FnScope c_is_house.N ["thing"] (defScope (top 41)) := ⟨rfl, rfl, rfl, by decide +kernel, by decide +kernel, by decide +kernel, by decide +kernel⟩
theorem ck_need_house : chkSs c_need_house (defScope (top 43)) b_need_house (defBody (top 43)) = true := by decide +kernel
theorem sc_need_house : FnScope c_need_house.N ["house"] (defScope (top 43)) := ⟨rfl, rfl, rfl, by decide +kernel, by decide +kernel, by decide +kernel, by decide +kernel⟩
theorem ck_need_name : chkSs c_need_name (defScope (top 44)) b_need_name (defBody (top 44)) = true := by decide +kernel
theorem sc_need_name : FnScope c_need_name.N ["house", "name"] (defScope (top 44)) := ⟨rfl, rfl, rfl, by decide +kernel, by decide +kernel, by decide +kernel, by decide +kernel⟩
theorem ck_need_mark : chkSs c_need_mark (defScope (top 45)) b_need_mark (defBody (top 45)) = true := by decide +kernel
theorem sc_need_mark : FnScope c_need_mark.N ["house", "mark"] (defScope (top 45)) := ⟨rfl, rfl, rfl, by decide +kernel, by decide +kernel, by decide +kernel, by decide +kernel⟩
theorem ck_all_stretches : chkSs c_all_stretches (defScope (top 46)) b_all_stretches (defBody (top 46)) = true := by decide +kernel
theorem sc_all_stretches : FnScope c_all_stretches.N ["house"] (defScope (top 46)) := ⟨rfl, rfl, rfl, by decide +kernel, by decide +kernel, by decide +kernel, by decide +kernel⟩
theorem ck_stretches : chkSs c_stretches (defScope (top 47)) b_stretches (defBody (top 47)) = true := by decide +kernel
theorem sc_stretches : FnScope c_stretches.N ["house"] (defScope (top 47)) := ⟨rfl, rfl, rfl, by decide +kernel, by decide +kernel, by decide +kernel, by decide +kernel⟩
theorem ck_gap_at : chkSs c_gap_at (defScope (top 48)) b_gap_at (defBody (top 48)) = true := by decide +kernel
theorem sc_gap_at : FnScope c_gap_at.N ["slots", "low"] (defScope (top 48)) := ⟨rfl, rfl, rfl, by decide +kernel, by decide +kernel, by decide +kernel, by decide +kernel⟩
theorem ck_slots_of : chkSs c_slots_of (defScope (top 49)) b_slots_of (defBody (top 49)) = true := by decide +kernel
theorem sc_slots_of : FnScope c_slots_of.N ["house", "name"] (defScope (top 49)) := ⟨rfl, rfl, rfl, by decide +kernel, by decide +kernel, by decide +kernel, by decide +kernel⟩
theorem ck_gap : chkSs c_gap (defScope (top 50)) b_gap (defBody (top 50)) = true := by decide +kernel
theorem sc_gap : FnScope c_gap.N ["house", "name", "mark"] (defScope (top 50)) := ⟨rfl, rfl, rfl, by decide +kernel, by decide +kernel, by decide +kernel, by decide +kernel⟩
theorem ck_xlaw_deck : chkSs c_xlaw_deck (defScope (top 52)) b_xlaw_deck (defBody (top 52)) = true := by decide +kernel
theorem sc_xlaw_deck : FnScope c_xlaw_deck.N ["_law_cell", "_law_turn"] (defScope (top 52)) := ⟨rfl, rfl, rfl, by decide +kernel, by decide +kernel, by decide +kernel, by decide +kernel⟩
theorem ck_xlaw_pick : chkSs c_xlaw_pick (defScope (top 53)) b_xlaw_pick (defBody (top 53)) = true := by decide +kernel
theorem sc_xlaw_pick : FnScope c_xlaw_pick.N ["_law_deck_here", "_law_limit"] (defScope (top 53)) := ⟨rfl, rfl, rfl, by decide +kernel, by decide +kernel, by decide +kernel, by decide +kernel⟩
theorem ck_xlaw_one : chkSs c_xlaw_one (defScope (top 56)) b_xlaw_one (defBody (top 56)) = true := by decide +kernel
theorem sc_xlaw_one : FnScope c_xlaw_one.N ["_law_deck_here", "_law_some_here"] (defScope (top 56)) := ⟨rfl, rfl, rfl, by decide +kernel, by decide +kernel, by decide +kernel, by decide +kernel⟩
theorem ck_xlaw_sort : chkSs c_xlaw_sort (defScope (top 57)) b_xlaw_sort (defBody (top 57)) = true := by decide +kernel
theorem sc_xlaw_sort : FnScope c_xlaw_sort.N ["_law_thing"] (defScope (top 57)) := ⟨rfl, rfl, rfl, by decide +kernel, by decide +kernel, by decide +kernel, by decide +kernel⟩
theorem ck_xlaw_same : chkSs c_xlaw_same (defScope (top 58)) b_xlaw_same (defBody (top 58)) = true := by decide +kernel
theorem sc_xlaw_same : FnScope c_xlaw_same.N ["_law_told", "_law_due_here"] (defScope (top 58)) := ⟨rfl, rfl, rfl, by decide +kernel, by decide +kernel, by decide +kernel, by decide +kernel⟩
theorem ck_xlaw_made : chkSs c_xlaw_made (defScope (top 59)) b_xlaw_made (defBody (top 59)) = true := by decide +kernel
theorem sc_xlaw_made : FnScope c_xlaw_made.N ["_law_top", "_law_bottom"] (defScope (top 59)) := ⟨rfl, rfl, rfl, by decide +kernel, by decide +kernel, by decide +kernel, by decide +kernel⟩
theorem ck_xlaw_less : chkSs c_xlaw_less (defScope (top 60)) b_xlaw_less (defBody (top 60)) = true := by decide +kernel
theorem sc_xlaw_less : FnScope c_xlaw_less.N ["_law_one_here", "_law_other"] (defScope (top 60)) := ⟨rfl, rfl, rfl, by decide +kernel, by decide +kernel, by decide +kernel, by decide +kernel⟩
theorem ck_xlaw_rising : chkSs c_xlaw_rising (defScope (top 61)) b_xlaw_rising (defBody (top 61)) = true := by decide +kernel
theorem sc_xlaw_rising : FnScope c_xlaw_rising.N ["_law_parts"] (defScope (top 61)) := ⟨rfl, rfl, rfl, by decide +kernel, by decide +kernel, by decide +kernel, by decide +kernel⟩
theorem ck_xlaw_some : chkSs c_xlaw_some (defScope (top 62)) b_xlaw_some (defBody (top 62)) = true := by decide +kernel
theorem sc_xlaw_some : FnScope c_xlaw_some.N ["_law_deck_here", "_law_low", "_law_high", "_law_many"] (defScope (top 62)) := ⟨rfl, rfl, rfl, by decide +kernel, by decide +kernel, by decide +kernel, by decide +kernel⟩
theorem ck_xlaw_filled : chkSs c_xlaw_filled (defScope (top 63)) b_xlaw_filled (defBody (top 63)) = true := by decide +kernel
theorem sc_xlaw_filled : FnScope c_xlaw_filled.N ["_law_deck_here", "_law_size", "_law_marks_here"] (defScope (top 63)) := ⟨rfl, rfl, rfl, by decide +kernel, by decide +kernel, by decide +kernel, by decide +kernel⟩
theorem ck_xlaw_house : chkSs c_xlaw_house (defScope (top 64)) b_xlaw_house (defBody (top 64)) = true := by decide +kernel
theorem sc_xlaw_house : FnScope c_xlaw_house.N ["_law_deck_here", "_law_most", "_law_wide", "_law_marked"] (defScope (top 64)) := ⟨rfl, rfl, rfl, by decide +kernel, by decide +kernel, by decide +kernel, by decide +kernel⟩
theorem ck_xlaw_between : chkSs c_xlaw_between (defScope (top 65)) b_xlaw_between (defBody (top 65)) = true := by decide +kernel
theorem sc_xlaw_between : FnScope c_xlaw_between.N ["_law_deck_here", "_law_low", "_law_high"] (defScope (top 65)) := ⟨rfl, rfl, rfl, by decide +kernel, by decide +kernel, by decide +kernel, by decide +kernel⟩
theorem ck_xlaw_marks : chkSs c_xlaw_marks (defScope (top 66)) b_xlaw_marks (defBody (top 66)) = true := by decide +kernel
theorem sc_xlaw_marks : FnScope c_xlaw_marks.N ["_law_house_here"] (defScope (top 66)) := ⟨rfl, rfl, rfl, by decide +kernel, by decide +kernel, by decide +kernel, by decide +kernel⟩
theorem ck_xlaw_parted : chkSs c_xlaw_parted (defScope (top 67)) b_xlaw_parted (defBody (top 67)) = true := by decide +kernel
theorem sc_xlaw_parted : FnScope c_xlaw_parted.N ["_law_house_here"] (defScope (top 67)) := ⟨rfl, rfl, rfl, by decide +kernel, by decide +kernel, by decide +kernel, by decide +kernel⟩
theorem ck_xlaw_gap : chkSs c_xlaw_gap (defScope (top 68)) b_xlaw_gap (defBody (top 68)) = true := by decide +kernel
theorem sc_xlaw_gap : FnScope c_xlaw_gap.N ["_law_slots_so", "_law_mark"] (defScope (top 68)) := ⟨rfl, rfl, rfl, by decide +kernel, by decide +kernel, by decide +kernel, by decide +kernel⟩
theorem ck_xlaw_w : chkSs c_xlaw_w (defScope (top 69)) b_xlaw_w (defBody (top 69)) = true := by decide +kernel
theorem sc_xlaw_w : FnScope c_xlaw_w.N ["_law_free"] (defScope (top 69)) := ⟨rfl, rfl, rfl, by decide +kernel, by decide +kernel, by decide +kernel, by decide +kernel⟩
theorem ck_xlaw_inside : chkSs c_xlaw_inside (defScope (top 70)) b_xlaw_inside (defBody (top 70)) = true := by decide +kernel
theorem sc_xlaw_inside : FnScope c_xlaw_inside.N ["_law_stretch"] (defScope (top 70)) := ⟨rfl, rfl, rfl, by decide +kernel, by decide +kernel, by decide +kernel, by decide +kernel⟩
theorem ck_xlaw_sums : chkSs c_xlaw_sums (defScope (top 71)) b_xlaw_sums (defBody (top 71)) = true := by decide +kernel
theorem sc_xlaw_sums : FnScope c_xlaw_sums.N ["_law_house_here"] (defScope (top 71)) := ⟨rfl, rfl, rfl, by decide +kernel, by decide +kernel, by decide +kernel, by decide +kernel⟩
theorem ck_xlaw_sure : chkSs c_xlaw_sure (defScope (top 72)) b_xlaw_sure (defBody (top 72)) = true := by decide +kernel
theorem sc_xlaw_sure : FnScope c_xlaw_sure.N ["_law_house_here"] (defScope (top 72)) := ⟨rfl, rfl, rfl, by decide +kernel, by decide +kernel, by decide +kernel, by decide +kernel⟩
theorem ck_xlaw_due : chkSs c_xlaw_due (defScope (top 73)) b_xlaw_due (defBody (top 73)) = true := by decide +kernel
theorem sc_xlaw_due : FnScope c_xlaw_due.N ["_law_slots_so", "_law_mark"] (defScope (top 73)) := ⟨rfl, rfl, rfl, by decide +kernel, by decide +kernel, by decide +kernel, by decide +kernel⟩
theorem ck_law : chkSs c_law (defScope (top 74)) b_law (defBody (top 74)) = true := by decide +kernel
theorem sc_law : FnScope c_law.N ["_law_script"] (defScope (top 74)) := ⟨rfl, rfl, rfl, by decide +kernel, by decide +kernel, by decide +kernel, by decide +kernel⟩
instance tnL : TN := ⟨fun _ => ("law" : PySem.Str) ++ ".<locals>." ++ "<lambda>"⟩
section
variable {P : Program} {w : World} {K : PySem.W.Frag} {mg : Str → Option Value} {base : Heap} {cf : Nat → Str}
structure Gl (K : PySem.W.Frag) (mg : Str → Option Value) : Prop where
  hd : HdF K mg faL fnL exs
  g_LETTERS : GcT K mg "LETTERS" (.str "abcdefghijklmnopqrstuvwxyz")
  g_MOST_COLOURS : GcT K mg "MOST_COLOURS" (.int 4)
  g_MOST_FIGURES : GcT K mg "MOST_FIGURES" (.int 10000000000000000000000000000000000000000)
  g_MOST_PASSES : GcT K mg "MOST_PASSES" (.int 20)
  g_MOST_SHELVES : GcT K mg "MOST_SHELVES" (.int 5)
  g_MOST_SLOTS : GcT K mg "MOST_SLOTS" (.int 20)
theorem st_made (c : Gl K mg) : St P w K mg base (caX K exs) cf i_made F_made 1 :=
  st_mk c.hd 0 rfl rfl (fun _ _ _ _ _ _ us hl => match us, hl with | [_, _], _ => rfl) sc_made (by decide) ck_made (.nil) (.nil) (by decide +kernel) rfl
theorem st_less (c : Gl K mg) : St P w K mg base (caX K exs) cf i_less F_less 1 :=
  st_mk c.hd 1 rfl rfl (fun _ _ _ _ _ _ us hl => match us, hl with | [_, _], _ => rfl) sc_less (by decide) ck_less (.nil) (.nil) (by decide +kernel) rfl
theorem st_in_order (c : Gl K mg) : St P w K mg base (caX K exs) cf i_in_order F_in_order 2 :=
  st_mk c.hd 2 rfl rfl (fun _ _ _ _ _ _ us hl => match us, hl with | [_], _ => rfl) sc_in_order (by decide) ck_in_order (.cons (st_less c) (by decide) (.nil)) (.nil) (by decide +kernel) rfl
theorem st_is_whole (c : Gl K mg) : St P w K mg base (caX K exs) cf i_is_whole F_is_whole 1 :=
  st_mk c.hd 3 rfl rfl (fun _ _ _ _ _ _ us hl => match us, hl with | [_], _ => rfl) sc_is_whole (by decide) ck_is_whole (.nil) (.nil) (by decide +kernel) rfl
theorem st_is_from (c : Gl K mg) : St P w K mg base (caX K exs) cf i_is_from F_is_from 2 :=
  st_mk c.hd 4 rfl rfl (fun _ _ _ _ _ _ us hl => match us, hl with | [_, _, _], _ => rfl) sc_is_from (by decide) ck_is_from (.cons (st_is_whole c) (by decide) (.nil)) (.nil) (by decide +kernel) rfl
theorem st_is_name (c : Gl K mg) : St P w K mg base (caX K exs) cf i_is_name F_is_name 1 :=
  st_mk c.hd 5 rfl rfl (fun _ _ _ _ _ _ us hl => match us, hl with | [_], _ => rfl) sc_is_name (by decide) ck_is_name (.nil) (.cons c.g_LETTERS (.nil)) (by decide +kernel) rfl
theorem st_is_mark (c : Gl K mg) : St P w K mg base (caX K exs) cf i_is_mark F_is_mark 2 :=
  st_mk c.hd 6 rfl rfl (fun _ _ _ _ _ _ us hl => match us, hl with | [_], _ => rfl) sc_is_mark (by decide) ck_is_mark (.cons (st_is_whole c) (by decide) (.cons (st_made c) (by decide) (.nil))) (.cons c.g_MOST_FIGURES (.nil)) (by decide +kernel) rfl
theorem st_marks_of (c : Gl K mg) : St P w K mg base (caX K exs) cf i_marks_of F_marks_of 1 :=
  st_mk c.hd 7 rfl rfl (fun _ _ _ _ _ _ us hl => match us, hl with | [_], _ => rfl) sc_marks_of (by decide) ck_marks_of (.nil) (.nil) (by decide +kernel) rfl
theorem st_are_slots (c : Gl K mg) : St P w K mg base (caX K exs) cf i_are_slots F_are_slots 3 :=
  st_mk c.hd 8 rfl rfl (fun _ _ _ _ _ _ us hl => match us, hl with | [_], _ => rfl) sc_are_slots (by decide) ck_are_slots (.cons (st_marks_of c) (by decide) (.cons (st_is_mark c) (by decide) (.cons (st_less c) (by decide) (.nil)))) (.cons c.g_MOST_SLOTS (.nil)) (by decide +kernel) rfl
theorem st_are_colours (c : Gl K mg) : St P w K mg base (caX K exs) cf i_are_colours F_are_colours 2 :=
  st_mk c.hd 9 rfl rfl (fun _ _ _ _ _ _ us hl => match us, hl with | [_, _], _ => rfl) sc_are_colours (by decide) ck_are_colours (.cons (st_is_name c) (by decide) (.nil)) (.nil) (by decide +kernel) rfl
theorem st_are_takes (c : Gl K mg) : St P w K mg base (caX K exs) cf i_are_takes F_are_takes 3 :=
  st_mk c.hd 10 rfl rfl (fun _ _ _ _ _ _ us hl => match us, hl with | [_, _], _ => rfl) sc_are_takes (by decide) ck_are_takes (.cons (st_are_colours c) (by decide) (.nil)) (.cons c.g_MOST_COLOURS (.nil)) (by decide +kernel) rfl
theorem st_is_shelf (c : Gl K mg) : St P w K mg base (caX K exs) cf i_is_shelf F_is_shelf 4 :=
  st_mk c.hd 11 rfl rfl (fun _ _ _ _ _ _ us hl => match us, hl with | [_, _], _ => rfl) sc_is_shelf (by decide) ck_is_shelf (.cons (st_is_name c) (by decide) (.cons (st_are_takes c) (by decide) (.cons (st_are_slots c) (by decide) (.nil)))) (.nil) (by decide +kernel) rfl
theorem st_all_marks (c : Gl K mg) : St P w K mg base (caX K exs) cf i_all_marks F_all_marks 3 :=
  st_mk c.hd 12 rfl rfl (fun _ _ _ _ _ _ us hl => match us, hl with | [_], _ => rfl) sc_all_marks (by decide) ck_all_marks (.cons (st_marks_of c) (by decide) (.cons (st_in_order c) (by decide) (.nil))) (.nil) (by decide +kernel) rfl
theorem st_is_house (c : Gl K mg) : St P w K mg base (caX K exs) cf i_is_house F_is_house 5 :=
  st_mk c.hd 13 rfl rfl (fun _ _ _ _ _ _ us hl => match us, hl with | [_], _ => rfl) sc_is_house (by decide) ck_is_house (.cons (st_are_colours c) (by decide) (.cons (st_is_from c) (by decide) (.cons (st_is_shelf c) (by decide) (.cons (st_all_marks c) (by decide) (.nil))))) (.cons c.g_MOST_COLOURS (.cons c.g_MOST_PASSES (.cons c.g_MOST_SHELVES (.nil)))) (by decide +kernel) rfl
theorem st_need_house (c : Gl K mg) : St P w K mg base (caX K exs) cf i_need_house F_need_house 6 :=
  st_mk c.hd 14 rfl rfl (fun _ _ _ _ _ _ us hl => match us, hl with | [_], _ => rfl) sc_need_house (by decide) ck_need_house (.cons (st_is_house c) (by decide) (.nil)) (.nil) (by decide +kernel) rfl
theorem st_need_name (c : Gl K mg) : St P w K mg base (caX K exs) cf i_need_name F_need_name 1 :=
  st_mk c.hd 15 rfl rfl (fun _ _ _ _ _ _ us hl => match us, hl with | [_, _], _ => rfl) sc_need_name (by decide) ck_need_name (.nil) (.nil) (by decide +kernel) rfl
theorem st_need_mark (c : Gl K mg) : St P w K mg base (caX K exs) cf i_need_mark F_need_mark 4 :=
  st_mk c.hd 16 rfl rfl (fun _ _ _ _ _ _ us hl => match us, hl with | [_, _], _ => rfl) sc_need_mark (by decide) ck_need_mark (.cons (st_is_mark c) (by decide) (.cons (st_all_marks c) (by decide) (.nil))) (.nil) (by decide +kernel) rfl
theorem st_all_stretches (c : Gl K mg) : St P w K mg base (caX K exs) cf i_all_stretches F_all_stretches 4 :=
  st_mk c.hd 17 rfl rfl (fun _ _ _ _ _ _ us hl => match us, hl with | [_], _ => rfl) sc_all_stretches (by decide) ck_all_stretches (.cons (st_all_marks c) (by decide) (.nil)) (.nil) (by decide +kernel) rfl
theorem st_stretches (c : Gl K mg) : St P w K mg base (caX K exs) cf i_stretches F_stretches 7 :=
  st_mk c.hd 18 rfl rfl (fun _ _ _ _ _ _ us hl => match us, hl with | [_], _ => rfl) sc_stretches (by decide) ck_stretches (.cons (st_need_house c) (by decide) (.cons (st_all_stretches c) (by decide) (.nil))) (.nil) (by decide +kernel) rfl
theorem st_gap_at (c : Gl K mg) : St P w K mg base (caX K exs) cf i_gap_at F_gap_at 2 :=
  st_mk c.hd 19 rfl rfl (fun _ _ _ _ _ _ us hl => match us, hl with | [_, _], _ => rfl) sc_gap_at (by decide) ck_gap_at (.cons (st_less c) (by decide) (.nil)) (.nil) (by decide +kernel) rfl
theorem st_slots_of (c : Gl K mg) : St P w K mg base (caX K exs) cf i_slots_of F_slots_of 1 :=
  st_mk c.hd 20 rfl rfl (fun _ _ _ _ _ _ us hl => match us, hl with | [_, _], _ => rfl) sc_slots_of (by decide) ck_slots_of (.nil) (.nil) (by decide +kernel) rfl
theorem st_gap (c : Gl K mg) : St P w K mg base (caX K exs) cf i_gap F_gap 7 :=
  st_mk c.hd 21 rfl rfl (fun _ _ _ _ _ _ us hl => match us, hl with | [_, _, _], _ => rfl) sc_gap (by decide) ck_gap (.cons (st_need_house c) (by decide) (.cons (st_need_name c) (by decide) (.cons (st_need_mark c) (by decide) (.cons (st_gap_at c) (by decide) (.cons (st_slots_of c) (by decide) (.nil)))))) (.nil) (by decide +kernel) rfl
theorem st_xlaw_deck (c : Gl K mg) : St P w K mg base (caX K exs) cf i_xlaw_deck F_xlaw_deck 1 :=
  st_mk c.hd 22 rfl rfl (fun _ _ _ _ _ _ us hl => match us, hl with | [_, _], _ => rfl) sc_xlaw_deck (by decide) ck_xlaw_deck (.nil) (.nil) (by decide +kernel) rfl
theorem st_xlaw_pick (c : Gl K mg) : St P w K mg base (caX K exs) cf i_xlaw_pick F_xlaw_pick 1 :=
  st_mk c.hd 23 rfl rfl (fun _ _ _ _ _ _ us hl => match us, hl with | [_, _], _ => rfl) sc_xlaw_pick (by decide) ck_xlaw_pick (.nil) (.nil) (by decide +kernel) rfl
theorem st_xlaw_one (c : Gl K mg) : St P w K mg base (caX K exs) cf i_xlaw_one F_xlaw_one 2 :=
  st_mk c.hd 24 rfl rfl (fun _ _ _ _ _ _ us hl => match us, hl with | [_, _], _ => rfl) sc_xlaw_one (by decide) ck_xlaw_one (.cons (st_xlaw_pick c) (by decide) (.nil)) (.nil) (by decide +kernel) rfl
theorem st_xlaw_sort (c : Gl K mg) : St P w K mg base (caX K exs) cf i_xlaw_sort F_xlaw_sort 1 :=
  st_mk c.hd 25 rfl rfl (fun _ _ _ _ _ _ us hl => match us, hl with | [_], _ => rfl) sc_xlaw_sort (by decide) ck_xlaw_sort (.nil) (.nil) (by decide +kernel) rfl
theorem st_xlaw_samen (c : Gl K mg) : ∀ n, St P w K mg base (caX K exs) cf i_xlaw_same (F_xlaw_samen n) (1 + n)
  | 0 => st_none (ps := ["_law_told", "_law_due_here"]) c.hd 26 rfl rfl (fun _ _ _ _ _ _ us hl => match us, hl with | [_, _], _ => rfl)
  | n + 1 => st_mk (k := 1 + n) c.hd 26 rfl rfl (fun _ _ _ _ _ _ us hl => match us, hl with | [_, _], _ => rfl) sc_xlaw_same (by decide) ck_xlaw_same (.cons (st_xlaw_sort c) (by omega) (.cons (st_xlaw_samen c n) (Nat.le_refl _) (.nil))) (.nil) (by decide +kernel) rfl
theorem st_xlaw_same (c : Gl K mg) : St P w K mg base (caX K exs) cf i_xlaw_same F_xlaw_same 15 := st_xlaw_samen c 14
theorem st_xlaw_made (c : Gl K mg) : St P w K mg base (caX K exs) cf i_xlaw_made F_xlaw_made 1 :=
  st_mk c.hd 27 rfl rfl (fun _ _ _ _ _ _ us hl => match us, hl with | [_, _], _ => rfl) sc_xlaw_made (by decide) ck_xlaw_made (.nil) (.nil) (by decide +kernel) rfl
theorem st_xlaw_less (c : Gl K mg) : St P w K mg base (caX K exs) cf i_xlaw_less F_xlaw_less 1 :=
  st_mk c.hd 28 rfl rfl (fun _ _ _ _ _ _ us hl => match us, hl with | [_, _], _ => rfl) sc_xlaw_less (by decide) ck_xlaw_less (.nil) (.nil) (by decide +kernel) rfl
theorem st_xlaw_rising (c : Gl K mg) : St P w K mg base (caX K exs) cf i_xlaw_rising F_xlaw_rising 2 :=
  st_mk c.hd 29 rfl rfl (fun _ _ _ _ _ _ us hl => match us, hl with | [_], _ => rfl) sc_xlaw_rising (by decide) ck_xlaw_rising (.cons (st_xlaw_less c) (by decide) (.nil)) (.nil) (by decide +kernel) rfl
theorem st_xlaw_some (c : Gl K mg) : St P w K mg base (caX K exs) cf i_xlaw_some F_xlaw_some 2 :=
  st_mk c.hd 30 rfl rfl (fun _ _ _ _ _ _ us hl => match us, hl with | [_, _, _, _], _ => rfl) sc_xlaw_some (by decide) ck_xlaw_some (.cons (st_xlaw_pick c) (by decide) (.nil)) (.nil) (by decide +kernel) rfl
theorem st_xlaw_filled (c : Gl K mg) : St P w K mg base (caX K exs) cf i_xlaw_filled F_xlaw_filled 3 :=
  st_mk c.hd 31 rfl rfl (fun _ _ _ _ _ _ us hl => match us, hl with | [_, _, _], _ => rfl) sc_xlaw_filled (by decide) ck_xlaw_filled (.cons (st_xlaw_some c) (by decide) (.nil)) (.nil) (by decide +kernel) rfl
theorem st_xlaw_house (c : Gl K mg) : St P w K mg base (caX K exs) cf i_xlaw_house F_xlaw_house 4 :=
  st_mk c.hd 32 rfl rfl (fun _ _ _ _ _ _ us hl => match us, hl with | [_, _, _, _], _ => rfl) sc_xlaw_house (by decide) ck_xlaw_house (.cons (st_xlaw_pick c) (by decide) (.cons (st_xlaw_one c) (by decide) (.cons (st_xlaw_made c) (by decide) (.cons (st_xlaw_some c) (by decide) (.cons (st_xlaw_filled c) (by decide) (.nil)))))) (.nil) (by decide +kernel) rfl
theorem st_xlaw_between (c : Gl K mg) : St P w K mg base (caX K exs) cf i_xlaw_between F_xlaw_between 2 :=
  st_mk c.hd 33 rfl rfl (fun _ _ _ _ _ _ us hl => match us, hl with | [_, _, _], _ => rfl) sc_xlaw_between (by decide) ck_xlaw_between (.cons (st_xlaw_pick c) (by decide) (.cons (st_xlaw_made c) (by decide) (.nil))) (.nil) (by decide +kernel) rfl
theorem st_xlaw_marks (c : Gl K mg) : St P w K mg base (caX K exs) cf i_xlaw_marks F_xlaw_marks 3 :=
  st_mk c.hd 34 rfl rfl (fun _ _ _ _ _ _ us hl => match us, hl with | [_], _ => rfl) sc_xlaw_marks (by decide) ck_xlaw_marks (.cons (st_xlaw_rising c) (by decide) (.nil)) (.nil) (by decide +kernel) rfl
theorem st_xlaw_parted (c : Gl K mg) : St P w K mg base (caX K exs) cf i_xlaw_parted F_xlaw_parted 4 :=
  st_mk c.hd 35 rfl rfl (fun _ _ _ _ _ _ us hl => match us, hl with | [_], _ => rfl) sc_xlaw_parted (by decide) ck_xlaw_parted (.cons (st_xlaw_marks c) (by decide) (.nil)) (.nil) (by decide +kernel) rfl
theorem st_xlaw_gap (c : Gl K mg) : St P w K mg base (caX K exs) cf i_xlaw_gap F_xlaw_gap 2 :=
  st_mk c.hd 36 rfl rfl (fun _ _ _ _ _ _ us hl => match us, hl with | [_, _], _ => rfl) sc_xlaw_gap (by decide) ck_xlaw_gap (.cons (st_xlaw_less c) (by decide) (.nil)) (.nil) (by decide +kernel) rfl
theorem st_xlaw_w (c : Gl K mg) : St P w K mg base (caX K exs) cf i_xlaw_w F_xlaw_w 1 :=
  st_mk c.hd 37 rfl rfl (fun _ _ _ _ _ _ us hl => match us, hl with | [_], _ => rfl) sc_xlaw_w (by decide) ck_xlaw_w (.nil) (.nil) (by decide +kernel) rfl
theorem st_xlaw_inside (c : Gl K mg) : St P w K mg base (caX K exs) cf i_xlaw_inside F_xlaw_inside 2 :=
  st_mk c.hd 38 rfl rfl (fun _ _ _ _ _ _ us hl => match us, hl with | [_], _ => rfl) sc_xlaw_inside (by decide) ck_xlaw_inside (.cons (st_xlaw_made c) (by decide) (.nil)) (.nil) (by decide +kernel) rfl
theorem st_xlaw_sums (c : Gl K mg) : St P w K mg base (caX K exs) cf i_xlaw_sums F_xlaw_sums 5 :=
  st_mk c.hd 39 rfl rfl (fun _ _ _ _ _ _ us hl => match us, hl with | [_], _ => rfl) sc_xlaw_sums (by decide) ck_xlaw_sums (.cons (st_xlaw_parted c) (by decide) (.cons (st_xlaw_inside c) (by decide) (.cons (st_xlaw_w c) (by decide) (.cons (st_xlaw_gap c) (by decide) (.nil))))) (.nil) (by decide +kernel) rfl
theorem st_xlaw_sure (c : Gl K mg) : St P w K mg base (caX K exs) cf i_xlaw_sure F_xlaw_sure 6 :=
  st_mk c.hd 40 rfl rfl (fun _ _ _ _ _ _ us hl => match us, hl with | [_], _ => rfl) sc_xlaw_sure (by decide) ck_xlaw_sure (.cons (st_xlaw_sums c) (by decide) (.nil)) (.nil) (by decide +kernel) rfl
theorem st_xlaw_due (c : Gl K mg) : St P w K mg base (caX K exs) cf i_xlaw_due F_xlaw_due 3 :=
  st_mk c.hd 41 rfl rfl (fun _ _ _ _ _ _ us hl => match us, hl with | [_, _], _ => rfl) sc_xlaw_due (by decide) ck_xlaw_due (.cons (st_xlaw_less c) (by decide) (.cons (st_xlaw_gap c) (by decide) (.nil))) (.nil) (by decide +kernel) rfl
theorem fn_law (c : Gl K mg) (hx : ∀ x ∈ exs, x ∈ nmC ∧ ExcF K x) (TB : LamX.TabB base mg (He.cT K ("law", none)).1 (He.cT K ("law", none)).2) {fd : FuncData} (F : FunD K "law" "law" (defArgs (top 74)) (defBody (top 74)) (defScope (top 74)) [] [] (He.ga K "law") fd) :
    FnOk P w K mg base (L2N.CX P w) 18 (He.ga K "law") fd ["_law_script"] (fun vs H Q E => TabQ H (He.cT K ("law", none)).2 ∧ spF K (caX K exs) cf [.val] true F_law vs H Q E) := by
  obtain ⟨fdN, FN⟩ := c.hd.defs _ (List.mem_of_getElem? (i := 43) (show fnL[43]? = some _ from rfl))
  obtain ⟨fdT, FT⟩ := c.hd.defs _ (List.mem_of_getElem? (i := 44) (show fnL[44]? = some _ from rfl))
  have M : NmK K mg := nmK_of c.hd (by decide +kernel) (by decide +kernel) (by decide +kernel) (by decide +kernel) (by decide +kernel)
  have hf : AllSt P w K mg base (caX K exs) cf 15 c_law.fns [F_xlaw_deck, F_xlaw_house, F_xlaw_one, F_stretches, F_xlaw_same, F_xlaw_parted, F_xlaw_between, F_xlaw_due, F_gap, F_xlaw_marks] := .cons (st_xlaw_deck c) (by decide) (.cons (st_xlaw_house c) (by decide) (.cons (st_xlaw_one c) (by decide) (.cons (st_stretches c) (by decide) (.cons (st_xlaw_same c) (by decide) (.cons (st_xlaw_parted c) (by decide) (.cons (st_xlaw_between c) (by decide) (.cons (st_xlaw_due c) (by decide) (.cons (st_gap c) (by decide) (.cons (st_xlaw_marks c) (by decide) (.nil))))))))))
  exact fnOk_mkT (k := 14) c.hd (fun H => TabQ H (He.cT K ("law", none)).2) F sc_law (by decide) ck_law hf (.nil) (by decide +kernel) rfl
    (law_tri (k := 14) M FN (c.hd.glo _ (by decide +kernel)) FT (c.hd.glo _ (by decide +kernel)) (triT_of hx rfl) TB rfl (fun cdv h => code_law h) fun j I hI => hf.get hI)
theorem gl_of {h : Heap} (X : K.In h) (G : h.Ns mainGlobals mg) (c : He.SaysX faL fnL [] [("law", none)] exK w h K) : Gl K mg where
  hd := hdF_of X G c.t.d (by decide +kernel)
  g_LETTERS := gc_str X G (c.t.d.fact 45 rfl)
  g_MOST_COLOURS := gc_int X G (c.t.d.fact 46 rfl)
  g_MOST_FIGURES := gc_int X G (c.t.d.fact 47 rfl)
  g_MOST_PASSES := gc_int X G (c.t.d.fact 48 rfl)
  g_MOST_SHELVES := gc_int X G (c.t.d.fact 49 rfl)
  g_MOST_SLOTS := gc_int X G (c.t.d.fact 50 rfl)
end
end K02
open PySem PySem.W PySem.Calls PyProof.Rows
theorem K02.holds_of (hF : ∀ ns : List Int, ns.length ≤ 63 → K02.F_law [.lst (ns.map Rf.D.int)] [] = some (.ok (.bl true), [])) : PySem.Challenge.rw_sureshelves_k02_stretches_and_gaps.Holds := by
  w_on; o_law
  refine HandSHeadRun.head_any (r := OpenLaw.row PySem.Challenge.rw_sureshelves_k02_stretches_and_gaps) (q := view (OpenLaw.row PySem.Challenge.rw_sureshelves_k02_stretches_and_gaps).prog [74]) (H := K02.hk) (ob := K02.ob) (M := 8000) (loose := K02.loose) (d := HandSHeadRun.topDef (OpenLaw.row PySem.Challenge.rw_sureshelves_k02_stretches_and_gaps).prog 74) (kwd := []) K02.ob_eq
    (by kernel_rfl) (fun s => by kernel_rfl) K02.run (by kernel_rfl) (by kernel_rfl) (by kernel_rfl) (by rfl) (by first | assumption | decide +kernel) (by decide +kernel) ⟨rfl, rfl, rfl, rfl, rfl, by decide +kernel⟩ ?hw ?hc
  case hw => w_witness2
  case hc =>
    refine LamX.walk_ofTsE (l := PySem.Challenge.rw_sureshelves_k02_stretches_and_gaps) (n := 63) (k := 18) (x := "_law_script") (CX := fun w => L2N.CX (PySem.Challenge.rw_sureshelves_k02_stretches_and_gaps).prog w) rfl (by decide) (by kernel_rfl) ⟨rfl, by decide, by decide⟩ ?F (fun w H s e s' h => Rf.cx_no H s e s' h)
    intro w mg fa h Y G hmg0
    obtain ⟨K, KX, c⟩ := Y
    have hmg : mg ("law" : PySem.Str) = some (.ref fa) := by
      have e : (HandSHeadRun.topDef (OpenLaw.row PySem.Challenge.rw_sureshelves_k02_stretches_and_gaps).prog 74).name = ("law" : PySem.Str) := by kernel_rfl
      rw [← e]
      exact hmg0
    have gl := K02.gl_of KX G c
    obtain ⟨fd, F⟩ := gl.hd.defs _ (List.mem_of_getElem? (i := 42) (show K02.fnL[42]? = some _ from rfl))
    have e := hmg.symm.trans (gl.hd.glo "law" (by decide +kernel))
    cases e
    have b := L2.FunD.bindsA (ps := ["_law_script"]) F fun _ _ _ _ _ _ us hl => match us, hl with | [_], _ => rfl
    have hx : ∀ x ∈ K02.exs, x ∈ Rf.nmC ∧ Rf.ExcF K x := by
      have m := c.more
      simp only [K02.exK, Bool.and_eq_true] at m
      have hin : (K02.exs.all fun x => decide (x ∈ Rf.nmC)) = true := by decide +kernel
      exact fun x hx => ⟨of_decide_eq_true (List.all_eq_true.mp hin x hx), Rf.excF_of (List.all_eq_true.mp m x hx)⟩
    have one : ∀ (p : Addr × Addr), p ∈ [He.cT K ("law", none)] → p = He.cT K ("law", none) := fun p hp => List.mem_singleton.mp hp
    have mem : (("law", none) : He.Defn) ∈ ([("law", none)] : List He.Defn) := List.mem_singleton.mpr rfl
    exact ⟨K, KX, fd, [He.cT K ("law", none)], fun vs H Q E => Rf.TabQ H (He.cT K ("law", none)).2 ∧ Rf.spF K (Rf.caX K K02.exs) (fun _ => "") [.val] true K02.F_law vs H Q E, fun p hp => by rw [one p hp]; exact c.empty _ mem, fun p hp => by rw [one p hp]; exact c.out _ mem, fun p hp => by rw [one p hp]; exact PySem.W.codeHd_of_K KX (c.hd _ mem),
      fun s u => b s [u] rfl, fun H a ns hl hb hT hS => ⟨Rf.tab_nil (hT _ (List.mem_singleton.mpr rfl)), Rf.sp_law hF H a ns hl hS⟩, fun base _ _ TB => K02.fn_law gl hx (TB _ (List.mem_singleton.mpr rfl)) F⟩

set_option maxRecDepth 100000 in
set_option maxHeartbeats 0 in
theorem PySem.Challenge.cw_sureshelves_k02_stretches_and_gaps_holds : PySem.Challenge.rw_sureshelves_k02_stretches_and_gaps.Holds := by
  exact K02.holds_of K02.law_true
