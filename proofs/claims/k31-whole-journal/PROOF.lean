import PyProof.Rows.All
import Wide.All
import OpenK.AllK
import Wide.FinOn
import HandS.ForMost
import HandS.ForExc
import HandS.AnyAll
import KE.IntTextLaws
import PyProof.Rows.StrDigitsNeg
import PySem.Challenge.RW_skyapart_k31_whole_journal_cut_anywhere
import KE.KExcSuper
import HandS.ExcInit
import HandS.FStr
import HandS.Text
import PyProof.SumAny
import PyProof.GenCompT
import PyProof.EnumMake
import HandS.StrMore
import HandS.Flow
import HandS.RaiseOp
import HandS.TryOnly
import HandS.More
import HandS.Star
import HandS.Comp
import KE.GoesComp
import KE.KUnpackStar
import HandS.Dict
import PyProof.ReprRoads
import PyProof.ReprBulk
import PyProof.Rows.StrSplitCount
import PyProof.Rows.RegReprOcc
import HandS.EndTab
import HandS.HeadWalk
import HandS.Head2
import HandS.HeadHook4
set_option Elab.async false
set_option linter.all false
set_option maxRecDepth 100000
set_option maxHeartbeats 0
/-! K31, part A: the data of the law, what it asks of them; heaps that grow. -/
namespace K31
open PySem PySem.Spec PyProof.Rows L2

/-! ### data -/
abbrev sI (n : Int) : Str := Str.ofString (toString n)
inductive Chg where
  | lvl (n : Int)
  | spd (n : Int)
  | rt (ns : List Str)
def Chg.d : Chg → PyData
  | .lvl n => .tuple [.str "level", .int n]
  | .spd n => .tuple [.str "speed", .int n]
  | .rt ns => .tuple [.str "route", .tuple (ns.map .str)]
def Chg.ws : Chg → List Str
  | .lvl n => ["LEVEL", sI n]
  | .spd n => ["SPEED", sI n]
  | .rt ns => "ROUTE" :: ns
def Chg.isRt : Chg → Bool
  | .rt _ => true
  | _ => false
structure Clr where
  fl : Str
  num : Int
  tk : Int
  ch : Chg
def Clr.d (c : Clr) : PyData := .tuple [.str c.fl, .int c.num, .int c.tk, c.ch.d]
def Clr.ws (c : Clr) : List Str := c.fl :: sI c.num :: "AT" :: sI c.tk :: c.ch.ws
inductive LK where | say | read | confirm
def LK.lo : LK → Str
  | .say => "say"
  | .read => "read"
  | .confirm => "confirm"
def LK.up : LK → Str
  | .say => "SAY"
  | .read => "READ"
  | .confirm => "CONFIRM"
inductive SK where | ask | taken | not
def SK.lo : SK → Str
  | .ask => "ask"
  | .taken => "taken"
  | .not => "not"
def SK.up : SK → Str
  | .ask => "ASK"
  | .taken => "TAKEN"
  | .not => "NOT"
inductive Msg where
  | long (k : LK) (c : Clr)
  | short (k : SK) (f : Str) (n : Int)
def Msg.d : Msg → PyData
  | .long k c => .tuple [.str k.lo, c.d]
  | .short k f n => .tuple [.str k.lo, .str f, .int n]
def Msg.ws : Msg → List Str
  | .long k c => k.up :: c.ws
  | .short k f n => [k.up, f, sI n]
def Msg.stops : Msg → Bool
  | .long _ c => c.ch.isRt
  | .short _ _ _ => false
structure Req where
  fl : Str
  kd : List Int
  st : Str
  go : Str
  lv : Int
  wt : Int
  tk : Int
  lt : Int
def Req.d (r : Req) : PyData := .tuple [.str r.fl, .tuple (r.kd.map .int), .str r.st, .str r.go, .int r.lv, .int r.wt, .int r.tk, .int r.lt]
def Req.tail (r : Req) : List Str := ["FROM", r.st, "TO", r.go, "AT", sI r.lv, "WANTS", sI r.wt, "TICK", sI r.tk, "LATE", sI r.lt]
def Req.ws (r : Req) : List Str := "FLIGHT" :: r.fl :: "KIND" :: (r.kd.map sI ++ r.tail)
/-- parts with a stroke between each two -/
def slash : List (List Str) → List Str
  | [] => []
  | [w] => w
  | w :: v :: r => w ++ (("/" : Str) :: slash (v :: r))
inductive Cal where
  | enter (rs : List Req)
  | say (by' fl : Str) (c : Chg) (t : Int)
  | solve (by' fl : Str) (cs : List Chg) (t : Int)
  | hear (m : Msg)
  | give (a b c : Str)
  | pass (f : Str) (took : Bool) (n : Int) (s r : Str)
  | adv (ps : List (Int × Int × Int))
def plotD (p : Int × Int × Int) : PyData := .tuple [.int p.1, .int p.2.1, .int p.2.2]
def plotW (p : Int × Int × Int) : List Str := [sI p.1, sI p.2.1, sI p.2.2]
def Cal.key : Cal → Str
  | .enter _ => "enter"
  | .say _ _ _ _ => "say"
  | .solve _ _ _ _ => "solve"
  | .hear _ => "hear"
  | .give _ _ _ => "give"
  | .pass _ _ _ _ _ => "pass_on"
  | .adv _ => "advance"
def Cal.word : Cal → Str
  | .enter _ => "ENTER"
  | .say _ _ _ _ => "SAY"
  | .solve _ _ _ _ => "SOLVE"
  | .hear _ => "HEAR"
  | .give _ _ _ => "GIVE"
  | .pass _ _ _ _ _ => "PASS"
  | .adv _ => "ADVANCE"
def Cal.parts : Cal → List PyData
  | .enter rs => [.list (rs.map Req.d)]
  | .say b f c t => [.str b, .str f, c.d, .int t]
  | .solve b f cs t => [.str b, .str f, .list (cs.map Chg.d), .int t]
  | .hear m => [m.d]
  | .give a b c => [.str a, .str b, .str c]
  | .pass f k n s r => [.str f, .tuple [.str (if k then "took" else "give"), .int n, .str s, .str r]]
  | .adv ps => [.list (ps.map plotD)]
def Cal.d (c : Cal) : PyData := .tuple (.str c.key :: c.parts)
def Cal.args : Cal → List Str
  | .enter rs => slash (rs.map Req.ws)
  | .say b f c t => b :: f :: sI t :: c.ws
  | .solve b f cs t => b :: f :: sI t :: slash (cs.map Chg.ws)
  | .hear m => m.ws
  | .give a b c => [a, b, c]
  | .pass f k n s r => [f, (if k then "TOOK" else "GIVE"), sI n, s, r]
  | .adv ps => (ps.map plotW).flatten
def Cal.ws (c : Cal) : List Str := c.word :: c.args
/-- its reader raises where an empty word follows -/
def Cal.stops : Cal → Bool
  | .enter _ => true
  | .say _ _ c _ => c.isRt
  | .solve _ _ _ _ => true
  | .hear m => m.stops
  | .give _ _ _ => false
  | .pass _ _ _ _ _ => false
  | .adv _ => true

/-! ### what is asked of them -/
def Cap (c : Nat) : Prop := 65 ≤ c ∧ c ≤ 90
def Dig (c : Nat) : Prop := 48 ≤ c ∧ c ≤ 57
def OkName (s : Str) : Prop := ∃ c r, TL.tl s = c :: r ∧ Cap c ∧ r.length ≤ 4 ∧ ∀ x ∈ r, Cap x ∨ Dig x
def OkNum (n : Int) : Prop := 0 ≤ n ∧ n < 1000000000
def OkInt (n : Int) : Prop := -1000000000 < n ∧ n < 1000000000
def OkChg : Chg → Prop
  | .lvl n => OkNum n
  | .spd n => OkNum n
  | .rt ns => 2 ≤ ns.length ∧ ns.length ≤ 6 ∧ ∀ x ∈ ns, OkName x
structure OkClr (c : Clr) : Prop where
  fl : OkName c.fl
  num : OkNum c.num
  tk : OkNum c.tk
  ch : OkChg c.ch
def OkMsg : Msg → Prop
  | .long _ c => OkClr c
  | .short _ f n => OkName f ∧ OkNum n
structure OkReq (r : Req) : Prop where
  fl : OkName r.fl
  kn : r.kd.length = 5
  kd : ∀ x ∈ r.kd, OkNum x
  st : OkName r.st
  go : OkName r.go
  lv : OkNum r.lv
  wt : OkNum r.wt
  tk : OkNum r.tk
  lt : OkNum r.lt
def OkPlot (p : Int × Int × Int) : Prop := OkInt p.1 ∧ OkInt p.2.1 ∧ OkInt p.2.2
def OkCal : Cal → Prop
  | .enter rs => 1 ≤ rs.length ∧ rs.length ≤ 3 ∧ ∀ r ∈ rs, OkReq r
  | .say b f c t => OkName b ∧ OkName f ∧ OkChg c ∧ OkNum t
  | .solve b f cs t => OkName b ∧ OkName f ∧ cs.length ≤ 3 ∧ (∀ c ∈ cs, OkChg c) ∧ OkNum t
  | .hear m => OkMsg m
  | .give a b c => OkName a ∧ OkName b ∧ OkName c
  | .pass f _ n s r => OkName f ∧ OkNum n ∧ OkName s ∧ OkName r
  | .adv ps => ps.length ≤ 3 ∧ ∀ p ∈ ps, OkPlot p

/-! ### heaps: what stood is kept, but at M; tables of code may grow -/
structure Ext (M : Addr → Prop) (H H' : Hp) : Prop where
  keep : ∀ b o, H b = some o → ¬ M b → (∀ ps, o ≠ .tbl ps) → H' b = some o
  tab : ∀ P, GxR.TabG H P → GxR.TabG H' P
  free : ∀ l, H' l = none → H l = none
abbrev X0 (H H' : Hp) : Prop := Ext (fun _ => False) H H'
abbrev X1 (p : Addr) (H H' : Hp) : Prop := Ext (fun b => b = p) H H'
theorem Ext.refl (M : Addr → Prop) (H : Hp) : Ext M H H := ⟨fun _ _ h _ _ => h, fun _ h => h, fun _ h => h⟩
theorem Ext.trans {M : Addr → Prop} {H H1 H2 : Hp} (a : Ext M H H1) (b : Ext M H1 H2) : Ext M H H2 :=
  ⟨fun c o h m n => b.keep c o (a.keep c o h m n) m n, fun P h => b.tab P (a.tab P h), fun l h => a.free l (b.free l h)⟩
theorem Ext.mono {M N : Addr → Prop} {H H1 : Hp} (a : Ext M H H1) (s : ∀ b, M b → N b) : Ext N H H1 :=
  ⟨fun c o h m n => a.keep c o h (fun z => m (s c z)) n, a.tab, a.free⟩
theorem Ext.x1 {p : Addr} {H H1 : Hp} (a : X0 H H1) : X1 p H H1 := a.mono fun _ z => z.elim
theorem tabG_ne {H : Hp} {P b : Addr} {o : HO} (t : GxR.TabG H P) (h : H b = some o) (n : ∀ ps, o ≠ .tbl ps) : b ≠ P := fun z => by
  obtain ⟨ps, e, _⟩ := t
  rw [z, e] at h
  exact n ps (Option.some.inj h).symm
theorem Ext.new {M : Addr → Prop} {H : Hp} {p : Addr} {o : HO} (h : H p = none) : Ext M H (upd H p o) := by
  refine ⟨fun b u e _ _ => by rw [upd_ne (ne_of_none e h)]; exact e, fun P t => ?_, fun l e => ?_⟩
  · obtain ⟨ps, e, q⟩ := t
    exact ⟨ps, by rw [upd_ne (ne_of_none e h)]; exact e, q⟩
  · by_cases z : l = p
    · rw [z]
      exact h
    · rw [upd_ne z] at e
      exact e
theorem Ext.put {M : Addr → Prop} {H : Hp} {p : Addr} {o u : HO} (h : H p = some u) (n : ∀ ps, u ≠ .tbl ps) (m : M p) : Ext M H (upd H p o) := by
  refine ⟨fun b v e k _ => ?_, fun P t => ?_, fun l e => ?_⟩
  · have z : b ≠ p := fun z => k (by rw [z]; exact m)
    rw [upd_ne z]
    exact e
  · have z := tabG_ne t h n
    obtain ⟨ps, e, q⟩ := t
    exact ⟨ps, by rw [upd_ne (Ne.symm z)]; exact e, q⟩
  · by_cases z : l = p
    · rw [z, upd_same] at e
      cases e
    · rw [upd_ne z] at e
      exact e
/-- an object of one's own, made behind H, changed -/
theorem Ext.own {M : Addr → Prop} {H H1 : Hp} {p : Addr} {o u : HO} (a : Ext M H H1) (hn : H p = none) (h : H1 p = some u) (n : ∀ ps, u ≠ .tbl ps) : Ext M H (upd H1 p o) := by
  refine ⟨fun b v e k q => ?_, fun P t => ?_, fun l e => ?_⟩
  · rw [upd_ne (ne_of_none e hn)]
    exact a.keep b v e k q
  · have t1 := a.tab P t
    have z := tabG_ne t1 h n
    obtain ⟨ps, e, q⟩ := t1
    exact ⟨ps, by rw [upd_ne (Ne.symm z)]; exact e, q⟩
  · by_cases z : l = p
    · rw [z]
      exact hn
    · rw [upd_ne z] at e
      exact a.free l e
theorem Ext.tabbed {M : Addr → Prop} {H H1 : Hp} {P : Addr} (t : GxR.TabG H P) (h : GxR.Tabbed P H H1) : Ext M H H1 := by
  obtain ⟨t1, k⟩ := h
  refine ⟨fun b o e _ n => by rw [k b (tabG_ne t e n)]; exact e, fun Q q => ?_, fun l e => ?_⟩
  · by_cases z : Q = P
    · rw [z]
      exact t1
    · obtain ⟨ps, e, y⟩ := q
      exact ⟨ps, by rw [k Q z]; exact e, y⟩
  · by_cases z : l = P
    · obtain ⟨ps, q, _⟩ := t1
      rw [z, q] at e
      cases e
    · rw [k l z] at e
      exact e
/-- no list, no tuple, nothing locked -/
def noSeq : HO → Bool
  | .lst _ => false
  | .tup _ => false
  | .frz _ _ => false
  | _ => true
def NS (M : Addr → Prop) (H : Hp) : Prop := ∀ b, M b → ∃ o, H b = some o ∧ noSeq o = true
theorem ns0 {H : Hp} : NS (fun _ => False) H := fun _ z => z.elim
theorem ns1 {H : Hp} {p : Addr} {o : HO} (h : H p = some o) (n : noSeq o = true := by rfl) : NS (fun b => b = p) H := fun b z => ⟨o, by rw [z]; exact h, n⟩
theorem Ext.seq {M : Addr → Prop} {H H1 : Hp} (a : Ext M H H1) (n : NS M H) {b : Addr} {o : HO} (h : H b = some o) (s : noSeq o = false) : H1 b = some o :=
  a.keep b o h (fun m => by
    obtain ⟨u, e, q⟩ := n b m
    rw [h] at e
    rw [← Option.some.inj e, s] at q
    cases q) fun ps z => by rw [z] at s; cases s
theorem Ext.sqL {M : Addr → Prop} {K : PySem.W.Frag} {H H1 : Hp} (a : Ext M H H1) (n : NS M H) {b : Addr} {xs : List V} (h : SqL K H b xs) : SqL K H1 b xs := by
  rcases h with (h | ⟨o, h⟩) | h
  · exact .inl (.inl (a.seq n h rfl))
  · exact .inl (.inr ⟨o, a.seq n h rfl⟩)
  · exact .inr h
theorem Ext.sqT {M : Addr → Prop} {K : PySem.W.Frag} {H H1 : Hp} (a : Ext M H H1) (n : NS M H) {b : Addr} {xs : List V} (h : SqT K H b xs) : SqT K H1 b xs := by
  rcases h with (h | ⟨o, h⟩) | h
  · exact .inl (.inl (a.seq n h rfl))
  · exact .inl (.inr ⟨o, a.seq n h rfl⟩)
  · exact .inr h
mutual
theorem Ext.dp {M : Addr → Prop} {K : PySem.W.Frag} {H H1 : Hp} (a : Ext M H H1) (n : NS M H) : ∀ {v : V} {d : PyData}, Dp K H v d → Dp K H1 v d
  | _, _, .non => .non
  | _, _, .bl b => .bl b
  | _, _, .int i => .int i
  | _, _, .str x => .str x
  | _, _, .lst h r => .lst (a.sqL n h) (a.dpAll n r)
  | _, _, .tup h r => .tup (a.sqT n h) (a.dpAll n r)
theorem Ext.dpAll {M : Addr → Prop} {K : PySem.W.Frag} {H H1 : Hp} (a : Ext M H H1) (n : NS M H) : ∀ {vs : List V} {ds : List PyData}, DpAll K H vs ds → DpAll K H1 vs ds
  | _, _, .nil => .nil
  | _, _, .cons h r => .cons (a.dp n h) (a.dpAll n r)
end
theorem Ext.dp0 {K : PySem.W.Frag} {H H1 : Hp} (a : X0 H H1) {v : V} {d : PyData} (h : Dp K H v d) : Dp K H1 v d := a.dp ns0 h
theorem Ext.dpAll0 {K : PySem.W.Frag} {H H1 : Hp} (a : X0 H H1) {v : List V} {d : List PyData} (h : DpAll K H v d) : DpAll K H1 v d := a.dpAll ns0 h

/-! ### data taken apart -/
section
variable {K : PySem.W.Frag} {H : Hp}
theorem dp_str {v : V} {x : Str} (h : Dp K H v (.str x)) : v = .str x := by cases h; rfl
theorem dp_int {v : V} {x : Int} (h : Dp K H v (.int x)) : v = .int x := by cases h; rfl
theorem dp_tup {v : V} {ds : List PyData} (h : Dp K H v (.tuple ds)) : ∃ a xs, v = .ref a ∧ SqT K H a xs ∧ DpAll K H xs ds := by
  cases h with
  | tup h r => exact ⟨_, _, rfl, h, r⟩
theorem dp_lst {v : V} {ds : List PyData} (h : Dp K H v (.list ds)) : ∃ a xs, v = .ref a ∧ SqL K H a xs ∧ DpAll K H xs ds := by
  cases h with
  | lst h r => exact ⟨_, _, rfl, h, r⟩
theorem dpa_nil {vs : List V} (h : DpAll K H vs []) : vs = [] := by cases h; rfl
theorem dpa_cons {vs : List V} {d : PyData} {ds : List PyData} (h : DpAll K H vs (d :: ds)) : ∃ v r, vs = v :: r ∧ Dp K H v d ∧ DpAll K H r ds := by
  cases h with
  | cons a b => exact ⟨_, _, rfl, a, b⟩
theorem dpa_len : ∀ {vs : List V} {ds : List PyData}, DpAll K H vs ds → vs.length = ds.length
  | _, _, .nil => rfl
  | _, _, .cons _ r => by rw [List.length_cons, List.length_cons, dpa_len r]
theorem dpa_strs : ∀ {vs : List V} {ns : List Str}, DpAll K H vs (ns.map .str) → vs = ns.map V.str
  | vs, [], h => dpa_nil h
  | vs, n :: ns, h => by
    obtain ⟨v, r, rfl, a, b⟩ := dpa_cons h
    rw [dp_str a, dpa_strs b] <;> rfl
theorem dpa_ints : ∀ {vs : List V} {ns : List Int}, DpAll K H vs (ns.map .int) → vs = ns.map V.int
  | vs, [], h => dpa_nil h
  | vs, n :: ns, h => by
    obtain ⟨v, r, rfl, a, b⟩ := dpa_cons h
    rw [dp_int a, dpa_ints b] <;> rfl
theorem strs_dpa : ∀ (ns : List Str), DpAll K H (ns.map V.str) (ns.map .str)
  | [] => .nil
  | n :: ns => .cons (.str n) (strs_dpa ns)
theorem ints_dpa : ∀ (ns : List Int), DpAll K H (ns.map V.int) (ns.map .int)
  | [] => .nil
  | n :: ns => .cons (.int n) (ints_dpa ns)
theorem dpa_app : ∀ {vs us : List V} {ds es : List PyData}, DpAll K H vs ds → DpAll K H us es → DpAll K H (vs ++ us) (ds ++ es)
  | _, _, _, _, .nil, h => h
  | _, _, _, _, .cons a r, h => .cons a (dpa_app r h)
theorem dpa_take : ∀ {vs : List V} {ds : List PyData} (n : Nat), DpAll K H vs ds → DpAll K H (vs.take n) (ds.take n)
  | _, _, 0, _ => .nil
  | _, _, _ + 1, .nil => .nil
  | _, _, n + 1, .cons a r => .cons a (dpa_take n r)
theorem dpa_get : ∀ {vs : List V} {ds : List PyData} {i : Nat} {v : V}, DpAll K H vs ds → vs[i]? = some v → ∃ d, ds[i]? = some d ∧ Dp K H v d
  | _, _, _, _, .nil, e => by simp at e
  | _, _, 0, _, .cons a r, e => by simp at e; subst e; exact ⟨_, rfl, a⟩
  | _, _, i + 1, _, .cons a r, e => by simpa using dpa_get (i := i) r (by simpa using e)
theorem dpa_at : ∀ {vs : List V} {ds : List PyData} {i : Nat} {d : PyData}, DpAll K H vs ds → ds[i]? = some d → ∃ v, vs[i]? = some v ∧ Dp K H v d
  | _, _, _, _, .nil, e => by simp at e
  | _, _, 0, _, .cons a r, e => by simp at e; subst e; exact ⟨_, rfl, a⟩
  | _, _, i + 1, _, .cons a r, e => by simpa using dpa_at (i := i) r (by simpa using e)
/-- a new tuple, a new list of data -/
theorem dp_newT {p : Addr} {xs : List V} {ds : List PyData} (h : H p = some (.tup xs)) (r : DpAll K H xs ds) : Dp K H (.ref p) (.tuple ds) := .tup (SqT.of h) r
theorem dp_newL {p : Addr} {xs : List V} {ds : List PyData} (h : H p = some (.lst xs)) (r : DpAll K H xs ds) : Dp K H (.ref p) (.list ds) := .lst (SqL.of h) r
end
end K31
/-! K31, part M: words, texts, numbers, sums; no program in sight. -/
namespace K31
open PySem PySem.Spec PyProof.Rows L2
open TL (tl)

/-! ### words -/
/-- signs of a word -/
def Sg (c : Nat) : Prop := 33 ≤ c ∧ c ≤ 90 ∧ c ≠ 37
structure Clean (w : Str) : Prop where
  sg : ∀ c ∈ tl w, Sg c
  lo : 1 ≤ w.length
  hi : w.length ≤ 10
def sgB (c : Nat) : Bool := Nat.ble 33 c && (Nat.ble c 90 && !(c == 37))
theorem sgB_ok {c : Nat} (h : sgB c = true) : Sg c := by
  unfold sgB at h
  simp only [Bool.and_eq_true, Bool.not_eq_true', beq_eq_false_iff_ne, Nat.ble_eq] at h
  exact ⟨h.1, h.2.1, h.2.2⟩
def cleanB (w : Str) : Bool := (tl w).all sgB && (Nat.ble 1 w.length && Nat.ble w.length 10)
theorem cleanB_ok {w : Str} (h : cleanB w = true) : Clean w := by
  unfold cleanB at h
  simp only [Bool.and_eq_true, List.all_eq_true, Nat.ble_eq] at h
  exact ⟨fun c hc => sgB_ok (h.1 c hc), h.2.1, h.2.2⟩
theorem Clean.no {w : Str} (h : Clean w) {c : Nat} (hc : ¬ Sg c) : c ∉ tl w := fun m => hc (h.sg c m)
theorem Clean.ne {w : Str} (h : Clean w) : w ≠ Str.empty := fun e => by
  have l := h.lo
  rw [e] at l
  exact absurd l (by decide)
theorem name_len {s : Str} (h : OkName s) : 1 ≤ s.length ∧ s.length ≤ 5 := by
  obtain ⟨c, r, e, _, l, _⟩ := h
  rw [TL.len_tl, e, List.length_cons]
  omega
theorem name_clean {s : Str} (h : OkName s) : Clean s := by
  have l := name_len h
  refine ⟨fun x hx => ?_, l.1, by omega⟩
  obtain ⟨c, r, e, hc, _, hr⟩ := h
  rw [e] at hx
  rcases List.mem_cons.mp hx with z | z
  · rw [z]
    unfold Cap at hc
    exact ⟨by omega, by omega, by omega⟩
  · have q := hr x z
    unfold Cap Dig at q
    exact ⟨by omega, by omega, by omega⟩

/-! ### numbers -/
theorem sI_nat (n : Nat) : tl (sI (n : Int)) = TL.numL n := TL.tl_num n
theorem num_nat {n : Int} (h : 0 ≤ n) : ∃ k : Nat, n = (k : Int) := ⟨n.toNat, by omega⟩
theorem sI_neg {n : Nat} (h : 0 < n) : tl (sI (-(n : Int))) = 45 :: TL.numL n := by
  have e : toString (-(n : Int)) = "-" ++ toString (0 - (-(n : Int))) := toString_neg (by omega)
  have e2 : (0 - (-(n : Int))) = (n : Int) := by omega
  show tl (Str.ofString (toString (-(n : Int)))) = _
  rw [e, e2, TL.tl_ofString, String.toList_append, List.map_append, ← TL.tl_num n, TL.tl_ofString]
  rfl
theorem numL_sg {n c : Nat} (h : c ∈ TL.numL n) : Dig c := TL.numL_digits n c h
theorem numL_len9 {n : Nat} (h : n < 1000000000) : (TL.numL n).length ≤ 9 := TL.numL_len (by decide) (by
  have e : (10 : Nat) ^ 9 = 1000000000 := by decide
  omega)
theorem numL_pos (n : Nat) : 1 ≤ (TL.numL n).length := List.length_pos_iff.mpr (TL.numL_ne n)
theorem num_len {n : Int} (h : OkNum n) : 1 ≤ (sI n).length ∧ (sI n).length ≤ 9 := by
  obtain ⟨h1, h2⟩ := h
  obtain ⟨k, rfl⟩ := num_nat h1
  rw [TL.len_tl, sI_nat]
  exact ⟨numL_pos k, numL_len9 (by omega)⟩
theorem num_clean {n : Int} (h : OkNum n) : Clean (sI n) := by
  have l := num_len h
  refine ⟨fun c hc => ?_, l.1, by omega⟩
  obtain ⟨h1, h2⟩ := h
  obtain ⟨k, rfl⟩ := num_nat h1
  rw [sI_nat] at hc
  have d := numL_sg hc
  unfold Dig at d
  exact ⟨by omega, by omega, by omega⟩
theorem int_two {n : Int} (h : OkInt n) : OkNum n ∨ ∃ k : Nat, 0 < k ∧ k < 1000000000 ∧ n = -(k : Int) := by
  obtain ⟨h1, h2⟩ := h
  by_cases z : 0 ≤ n
  · exact .inl ⟨z, h2⟩
  · exact .inr ⟨n.natAbs, by omega, by omega, by omega⟩
theorem neg_len {k : Nat} (h0 : 0 < k) (h : k < 1000000000) : (sI (-(k : Int))).length ≤ 10 := by
  rw [TL.len_tl, sI_neg h0, List.length_cons]
  have := numL_len9 h
  omega
theorem int_clean {n : Int} (h : OkInt n) : Clean (sI n) := by
  rcases int_two h with h | ⟨k, h0, h1, rfl⟩
  · exact num_clean h
  · refine ⟨fun c hc => ?_, ?_, neg_len h0 h1⟩
    · rw [sI_neg h0] at hc
      rcases List.mem_cons.mp hc with z | z
      · rw [z]
        exact ⟨by decide, by decide, by decide⟩
      · have d := numL_sg z
        unfold Dig at d
        exact ⟨by omega, by omega, by omega⟩
    · rw [TL.len_tl, sI_neg h0, List.length_cons]
      omega
theorem num_log {n : Int} (h : n.natAbs < 2 ^ 1920) : n.natAbs.log2 < 1920 := PySem.Spec.log2_small h
theorem int_log {n : Int} (h : -100000000000 < n) (h2 : n < 100000000000) : n.natAbs.log2 < 1920 := num_log (by
  have e : n.natAbs < 2 ^ 40 := by
    have : (2 : Nat) ^ 40 = 1099511627776 := by decide
    omega
  exact Nat.lt_of_lt_of_le e (Nat.pow_le_pow_right (by decide) (by decide)))
theorem num_text {n : Int} (h : OkNum n) : intText? (sI n) = some n := by
  obtain ⟨h1, h2⟩ := h
  obtain ⟨k, rfl⟩ := num_nat h1
  exact TL.int_num (by have := numL_len9 (n := k) (by omega); omega)
theorem neg_text {k : Nat} (h0 : 0 < k) (h : k < 1000000000) : intText? (sI (-(k : Int))) = some (-(k : Int)) := by
  have e := intText_neg (x := sI (-(k : Int))) (cs := TL.numL k) (sI_neg h0) (TL.numL_digits k) (TL.numL_ne k) (by have := neg_len h0 h; omega)
  rw [TL.numL_val] at e
  exact e
theorem int_text {n : Int} (h : OkInt n) : intText? (sI n) = some n := by
  rcases int_two h with h | ⟨k, h0, h1, rfl⟩
  · exact num_text h
  · exact neg_text h0 h1
theorem int_len {n : Int} (h : OkInt n) : (sI n).length ≤ 640 := by
  have := (int_clean h).hi
  omega
theorem sI_inj {m n : Nat} (h : sI (m : Int) = sI (n : Int)) : m = n := TL.numL_inj (by rw [← sI_nat, ← sI_nat, h])
theorem sI_ne {m n : Nat} (h : m ≠ n) : sI (m : Int) ≠ sI (n : Int) := fun e => h (sI_inj e)
/-- no number but 0 begins with the sign 0 -/
theorem numL_head (n : Nat) : ∃ c r, TL.numL n = c :: r ∧ (c = 48 → n = 0) := by
  induction n using Nat.strongRecOn with
  | _ n ih =>
    by_cases h : n < 10
    · refine ⟨48 + n, [], TL.numL_lt h, fun z => by omega⟩
    · obtain ⟨c, r, e, q⟩ := ih (n / 10) (by omega)
      refine ⟨c, r ++ [48 + n % 10], by rw [TL.numL_step (by omega), e] <;> rfl, fun z => ?_⟩
      have := q z
      omega

/-! ### the words of a call -/
theorem chg_clean {c : Chg} (h : OkChg c) : (∀ w ∈ c.ws, Clean w) ∧ c.ws.length ≤ 7 ∧ 2 ≤ c.ws.length := by
  cases c with
  | lvl n =>
    refine ⟨fun w hw => ?_, (by show 2 ≤ 7; decide), (by show 2 ≤ 2; decide)⟩
    rcases List.mem_cons.mp hw with z | z
    · rw [z]
      exact cleanB_ok (by decide +kernel)
    · rw [List.mem_singleton.mp z]
      exact num_clean h
  | spd n =>
    refine ⟨fun w hw => ?_, (by show 2 ≤ 7; decide), (by show 2 ≤ 2; decide)⟩
    rcases List.mem_cons.mp hw with z | z
    · rw [z]
      exact cleanB_ok (by decide +kernel)
    · rw [List.mem_singleton.mp z]
      exact num_clean h
  | rt ns =>
    obtain ⟨h1, h2, h3⟩ := h
    refine ⟨fun w hw => ?_, (by show ns.length + 1 ≤ 7; omega), (by show 2 ≤ ns.length + 1; omega)⟩
    rcases List.mem_cons.mp hw with z | z
    · rw [z]
      exact cleanB_ok (by decide +kernel)
    · exact name_clean (h3 w z)
theorem all_cons {α : Type} {p : α → Prop} {a : α} {l : List α} (h : p a) (r : ∀ x ∈ l, p x) : ∀ x ∈ a :: l, p x := fun x hx => by
  rcases List.mem_cons.mp hx with z | z
  · rw [z]
    exact h
  · exact r x z
theorem all_nil {α : Type} {p : α → Prop} : ∀ x ∈ ([] : List α), p x := fun x hx => by cases hx
theorem all_app {α : Type} {p : α → Prop} {l m : List α} (h : ∀ x ∈ l, p x) (r : ∀ x ∈ m, p x) : ∀ x ∈ l ++ m, p x := fun x hx => (List.mem_append.mp hx).elim (h x) (r x)
theorem clr_clean {c : Clr} (h : OkClr c) : (∀ w ∈ c.ws, Clean w) ∧ c.ws.length ≤ 11 := by
  obtain ⟨h1, h2, _⟩ := chg_clean h.ch
  refine ⟨all_cons (name_clean h.fl) (all_cons (num_clean h.num) (all_cons (cleanB_ok (by decide +kernel)) (all_cons (num_clean h.tk) h1))), ?_⟩
  show c.ch.ws.length + 4 ≤ 11
  omega
theorem lk_clean (k : LK) : Clean k.up := by cases k <;> exact cleanB_ok (by decide +kernel)
theorem sk_clean (k : SK) : Clean k.up := by cases k <;> exact cleanB_ok (by decide +kernel)
theorem msg_clean {m : Msg} (h : OkMsg m) : (∀ w ∈ m.ws, Clean w) ∧ m.ws.length ≤ 12 := by
  cases m with
  | long k c =>
    obtain ⟨h1, h2⟩ := clr_clean h
    exact ⟨all_cons (lk_clean k) h1, (by show c.ws.length + 1 ≤ 12; omega)⟩
  | short k f n => exact ⟨all_cons (sk_clean k) (all_cons (name_clean h.1) (all_cons (num_clean h.2) all_nil)), (by show 3 ≤ 12; decide)⟩
theorem nums_clean {l : List Int} (h : ∀ x ∈ l, OkNum x) : ∀ w ∈ l.map sI, Clean w := fun w hw => by
  obtain ⟨x, hx, rfl⟩ := List.mem_map.mp hw
  exact num_clean (h x hx)
theorem req_clean {r : Req} (h : OkReq r) : (∀ w ∈ r.ws, Clean w) ∧ r.ws.length = 20 := by
  refine ⟨all_cons (cleanB_ok (by decide +kernel)) (all_cons (name_clean h.fl) (all_cons (cleanB_ok (by decide +kernel)) (all_app (nums_clean h.kd) ?_))), ?_⟩
  · exact all_cons (cleanB_ok (by decide +kernel)) (all_cons (name_clean h.st) (all_cons (cleanB_ok (by decide +kernel)) (all_cons (name_clean h.go) (all_cons (cleanB_ok (by decide +kernel)) (all_cons (num_clean h.lv)
      (all_cons (cleanB_ok (by decide +kernel)) (all_cons (num_clean h.wt) (all_cons (cleanB_ok (by decide +kernel)) (all_cons (num_clean h.tk) (all_cons (cleanB_ok (by decide +kernel)) (all_cons (num_clean h.lt) all_nil)))))))))))
  · show (r.kd.map sI ++ r.tail).length + 3 = 20
    rw [List.length_append, List.length_map, h.kn]
    rfl
theorem slash_clean : ∀ {l : List (List Str)}, (∀ p ∈ l, ∀ w ∈ p, Clean w) → ∀ w ∈ slash l, Clean w
  | [], _ => all_nil
  | [p], h => h p (List.mem_singleton.mpr rfl)
  | p :: q :: r, h => all_app (h p (List.mem_cons_self ..)) (all_cons (cleanB_ok (by decide +kernel)) (slash_clean fun z hz => h z (List.mem_cons_of_mem _ hz)))
theorem slash_len {k : Nat} : ∀ {l : List (List Str)}, (∀ p ∈ l, p.length ≤ k) → (slash l).length ≤ (k + 1) * l.length
  | [], _ => Nat.zero_le _
  | [p], h => by
    have := h p (List.mem_singleton.mpr rfl)
    show p.length ≤ (k + 1) * 1
    omega
  | p :: q :: r, h => by
    have h1 := h p (List.mem_cons_self ..)
    have h2 := slash_len (k := k) (l := q :: r) fun z hz => h z (List.mem_cons_of_mem _ hz)
    show (p ++ (("/" : Str) :: slash (q :: r))).length ≤ (k + 1) * ((q :: r).length + 1)
    rw [List.length_append, List.length_cons, Nat.mul_add]
    omega
theorem plots_clean : ∀ {ps : List (Int × Int × Int)}, (∀ p ∈ ps, OkPlot p) → (∀ w ∈ (ps.map plotW).flatten, Clean w) ∧ (ps.map plotW).flatten.length = 3 * ps.length
  | [], _ => ⟨all_nil, rfl⟩
  | p :: r, h => by
    obtain ⟨h1, h2⟩ := plots_clean (ps := r) fun z hz => h z (List.mem_cons_of_mem _ hz)
    obtain ⟨a, b, c⟩ := h p (List.mem_cons_self ..)
    refine ⟨all_app (all_cons (int_clean a) (all_cons (int_clean b) (all_cons (int_clean c) all_nil))) h1, ?_⟩
    show (plotW p ++ (r.map plotW).flatten).length = 3 * (r.length + 1)
    rw [List.length_append, h2]
    show 3 + _ = _
    omega
theorem word_clean : ∀ c : Cal, Clean c.word
  | .enter _ => cleanB_ok (w := "ENTER") (by decide +kernel)
  | .say _ _ _ _ => cleanB_ok (w := "SAY") (by decide +kernel)
  | .solve _ _ _ _ => cleanB_ok (w := "SOLVE") (by decide +kernel)
  | .hear _ => cleanB_ok (w := "HEAR") (by decide +kernel)
  | .give _ _ _ => cleanB_ok (w := "GIVE") (by decide +kernel)
  | .pass _ _ _ _ _ => cleanB_ok (w := "PASS") (by decide +kernel)
  | .adv _ => cleanB_ok (w := "ADVANCE") (by decide +kernel)
theorem args_clean {c : Cal} (h : OkCal c) : (∀ w ∈ c.args, Clean w) ∧ c.args.length ≤ 63 := by
  cases c with
  | enter rs =>
    obtain ⟨_, h2, h3⟩ := h
    refine ⟨slash_clean fun p hp => ?_, ?_⟩
    · obtain ⟨r, hr, rfl⟩ := List.mem_map.mp hp
      exact (req_clean (h3 r hr)).1
    · have q := slash_len (k := 20) (l := rs.map Req.ws) fun p hp => by
        obtain ⟨r, hr, rfl⟩ := List.mem_map.mp hp
        exact Nat.le_of_eq (req_clean (h3 r hr)).2
      rw [List.length_map] at q
      show (slash (rs.map Req.ws)).length ≤ 63
      omega
  | say b f c t =>
    obtain ⟨h1, h2, h3, h4⟩ := h
    obtain ⟨q1, q2, _⟩ := chg_clean h3
    exact ⟨all_cons (name_clean h1) (all_cons (name_clean h2) (all_cons (num_clean h4) q1)), (by show c.ws.length + 3 ≤ 63; omega)⟩
  | solve b f cs t =>
    obtain ⟨h1, h2, h3, h4, h5⟩ := h
    refine ⟨all_cons (name_clean h1) (all_cons (name_clean h2) (all_cons (num_clean h5) (slash_clean fun p hp => ?_))), ?_⟩
    · obtain ⟨r, hr, rfl⟩ := List.mem_map.mp hp
      exact (chg_clean (h4 r hr)).1
    · have q := slash_len (k := 7) (l := cs.map Chg.ws) fun p hp => by
        obtain ⟨r, hr, rfl⟩ := List.mem_map.mp hp
        exact (chg_clean (h4 r hr)).2.1
      rw [List.length_map] at q
      show (slash (cs.map Chg.ws)).length + 3 ≤ 63
      omega
  | hear m =>
    obtain ⟨h1, h2⟩ := msg_clean h
    exact ⟨h1, (by show m.ws.length ≤ 63; omega)⟩
  | give a b c =>
    obtain ⟨h1, h2, h3⟩ := h
    exact ⟨all_cons (name_clean h1) (all_cons (name_clean h2) (all_cons (name_clean h3) all_nil)), (by show 3 ≤ 63; decide)⟩
  | pass f k n s r =>
    obtain ⟨h1, h2, h3, h4⟩ := h
    refine ⟨all_cons (name_clean h1) (all_cons ?_ (all_cons (num_clean h2) (all_cons (name_clean h3) (all_cons (name_clean h4) all_nil)))), (by show 5 ≤ 63; decide)⟩
    cases k <;> exact cleanB_ok (by decide +kernel)
  | adv ps =>
    obtain ⟨h1, h2⟩ := h
    obtain ⟨q1, q2⟩ := plots_clean h2
    exact ⟨q1, (by show (ps.map plotW).flatten.length ≤ 63; omega)⟩
theorem ws_clean {c : Cal} (h : OkCal c) : (∀ w ∈ c.ws, Clean w) ∧ c.ws.length ≤ 64 ∧ c.ws ≠ [] := by
  obtain ⟨h1, h2⟩ := args_clean h
  exact ⟨all_cons (word_clean c) h1, (by show c.args.length + 1 ≤ 64; omega), List.cons_ne_nil _ _⟩

/-! ### texts of words -/
abbrev bk : Str := " "
def sp (ws : List Str) : Str := Txt.join bk ws
theorem tl_bk : tl bk = [32] := by decide +kernel
theorem tl_sp (ws : List Str) : tl (sp ws) = TL.joinL [32] (ws.map tl) := by
  unfold sp
  rw [TL.join_eq, TL.tl_join, tl_bk]
theorem sp_one (w : Str) : sp [w] = w := TL.ext_tl (by rw [tl_sp] <;> rfl)
theorem sp_cons {w v : Str} {r : List Str} : sp (w :: v :: r) = w ++ bk ++ sp (v :: r) := TL.ext_tl (by
  rw [tl_sp, TL.tl_append, TL.tl_append, tl_sp, tl_bk, List.append_assoc]
  rfl)
theorem sp_cons' {w : Str} {r : List Str} (h : r ≠ []) : sp (w :: r) = w ++ bk ++ sp r := by
  cases r with
  | nil => exact absurd rfl h
  | cons v r => exact sp_cons
theorem app_assoc (a b c : Str) : a ++ b ++ c = a ++ (b ++ c) := Str.append_assoc a b c
theorem sp_app : ∀ {a b : List Str}, a ≠ [] → b ≠ [] → sp (a ++ b) = sp a ++ bk ++ sp b
  | [], _, h, _ => absurd rfl h
  | [w], b, _, h => by
    show sp (w :: b) = _
    rw [sp_cons' h, sp_one]
  | w :: v :: r, b, _, h => by
    show sp (w :: v :: (r ++ b)) = _
    have e : sp (v :: (r ++ b)) = sp (v :: r) ++ bk ++ sp b := sp_app (a := v :: r) (List.cons_ne_nil _ _) h
    rw [sp_cons, e, sp_cons]
    simp only [app_assoc]
theorem sp_len {k : Nat} : ∀ {ws : List Str}, (∀ w ∈ ws, w.length ≤ k) → (sp ws).length ≤ (k + 1) * ws.length
  | [], _ => Nat.zero_le _
  | [w], h => by
    have := h w (List.mem_singleton.mpr rfl)
    rw [sp_one]
    show w.length ≤ (k + 1) * 1
    omega
  | w :: v :: r, h => by
    have h1 := h w (List.mem_cons_self ..)
    have h2 := sp_len (k := k) (ws := v :: r) fun z hz => h z (List.mem_cons_of_mem _ hz)
    have e : (w ++ bk ++ sp (v :: r)).length = w.length + 1 + (sp (v :: r)).length := by
      rw [TL.len_tl, TL.tl_append, TL.tl_append, List.length_append, List.length_append, tl_bk, TL.len_tl w, TL.len_tl (sp (v :: r))] <;> rfl
    rw [sp_cons, e]
    show w.length + 1 + (sp (v :: r)).length ≤ (k + 1) * ((v :: r).length + 1)
    rw [Nat.mul_add]
    omega
theorem sp_sg : ∀ {ws : List Str}, (∀ w ∈ ws, ∀ c ∈ tl w, Sg c) → ∀ c ∈ tl (sp ws), c = 32 ∨ Sg c
  | [], _, c, hc => by
    rw [tl_sp] at hc
    cases hc
  | [w], h, c, hc => by
    rw [sp_one] at hc
    exact .inr (h w (List.mem_singleton.mpr rfl) c hc)
  | w :: v :: r, h, c, hc => by
    rw [sp_cons, TL.tl_append, TL.tl_append, tl_bk] at hc
    rcases List.mem_append.mp hc with z | z
    · rcases List.mem_append.mp z with z | z
      · exact .inr (h w (List.mem_cons_self ..) c z)
      · exact .inl (List.mem_singleton.mp z)
    · exact sp_sg (fun x hx => h x (List.mem_cons_of_mem _ hx)) c z
theorem no32 {w : Str} (h : ∀ c ∈ tl w, Sg c) : 32 ∉ tl w := fun m => by
  have := h 32 m
  unfold Sg at this
  omega
theorem sp_split {ws : List Str} (hne : ws ≠ []) (h : ∀ w ∈ ws, ∀ c ∈ tl w, Sg c) : Txt.split (sp ws) bk = ws :=
  TL.split_join tl_bk (by decide +kernel) hne fun p hp => no32 (h p hp)
theorem tl_empty : tl Str.empty = [] := rfl
theorem sp_trail {ws : List Str} (hne : ws ≠ []) : sp ws ++ bk = sp (ws ++ [Str.empty]) := by
  rw [sp_app hne (List.cons_ne_nil _ _), sp_one]
  refine TL.ext_tl ?_
  rw [TL.tl_append, TL.tl_append, TL.tl_append, tl_empty, List.append_nil]

/-! ### sums -/
def tsumL : Nat → List Nat → Nat
  | _, [] => 0
  | i, c :: r => (i + 1) * c + tsumL (i + 1) r
def tsum (x : Str) : Int := ((tsumL 0 (tl x) : Nat) : Int) % 9973
theorem tsum_ok (x : Str) : OkNum (tsum x) := by
  unfold tsum
  have h1 := Int.emod_nonneg ((tsumL 0 (tl x) : Nat) : Int) (show (9973 : Int) ≠ 0 by decide)
  have h2 := Int.emod_lt_of_pos ((tsumL 0 (tl x) : Nat) : Int) (show (0 : Int) < 9973 by decide)
  exact ⟨h1, by omega⟩
theorem tsum_lt (x : Str) : 0 ≤ tsum x ∧ tsum x < 9973 := by
  unfold tsum
  exact ⟨Int.emod_nonneg _ (by decide), Int.emod_lt_of_pos _ (by decide)⟩
theorem tsumL_app : ∀ (l m : List Nat) (i : Nat), tsumL i (l ++ m) = tsumL i l + tsumL (i + l.length) m
  | [], m, i => by
    show tsumL i m = 0 + tsumL (i + 0) m
    rw [Nat.zero_add, Nat.add_zero]
  | c :: l, m, i => by
    show (i + 1) * c + tsumL (i + 1) (l ++ m) = (i + 1) * c + tsumL (i + 1) l + tsumL (i + (l.length + 1)) m
    rw [tsumL_app l m (i + 1), show i + 1 + l.length = i + (l.length + 1) by omega, Nat.add_assoc]
theorem tsumL_le {B : Nat} : ∀ (l : List Nat) (i : Nat), (∀ c ∈ l, c ≤ B) → tsumL i l ≤ (i + l.length) * B * l.length
  | [], i, _ => Nat.zero_le _
  | c :: l, i, h => by
    have h1 := h c (List.mem_cons_self ..)
    have h2 := tsumL_le l (i + 1) fun x hx => h x (List.mem_cons_of_mem _ hx)
    show (i + 1) * c + tsumL (i + 1) l ≤ (i + (l.length + 1)) * B * (l.length + 1)
    have e1 : (i + 1) * c ≤ (i + (l.length + 1)) * B := Nat.mul_le_mul (by omega) h1
    have e2 : (i + 1 + l.length) = (i + (l.length + 1)) := by omega
    rw [e2] at h2
    rw [Nat.mul_add, Nat.mul_one]
    omega
/-- the text of a call -/
def cTx (c : Cal) : Str := sp c.ws
theorem cTx_sg {c : Cal} (h : OkCal c) : ∀ x ∈ tl (cTx c), x = 32 ∨ Sg x := sp_sg fun w hw => ((ws_clean h).1 w hw).sg
theorem cTx_len {c : Cal} (h : OkCal c) : (cTx c).length ≤ 704 := by
  obtain ⟨h1, h2, _⟩ := ws_clean h
  have q := sp_len (k := 10) (ws := c.ws) fun w hw => (h1 w hw).hi
  show (sp c.ws).length ≤ 704
  omega
end K31
/-! K31, part T: the text by places, its defs' names. -/
namespace K31
open PySem PySem.Spec PyProof.Rows L2
def top (i : Nat) : Stmt := PySem.Challenge.pw_skyapart_k31_whole_journal_cut_anywhere.main.body.getD i (.Pass ⟨0, 0, 0, 0⟩)
abbrev s_is_name : Stmt := top 7
theorem sc_is_name : FnScope ["thing"] ["thing"] (defScope s_is_name) :=
  ⟨rfl, rfl, rfl, by decide +kernel, rfl, by decide +kernel, by decide +kernel⟩
abbrev s_is_number : Stmt := top 11
theorem sc_is_number : FnScope ["word"] ["word"] (defScope s_is_number) :=
  ⟨rfl, rfl, rfl, by decide +kernel, rfl, by decide +kernel, by decide +kernel⟩
abbrev s_is_signed : Stmt := top 12
theorem sc_is_signed : FnScope ["word"] ["word"] (defScope s_is_signed) :=
  ⟨rfl, rfl, rfl, by decide +kernel, rfl, by decide +kernel, by decide +kernel⟩
abbrev s_Words_init : Stmt := inClass (top 13) 0
theorem sc_Words_init : FnScope ["self", "text"] ["self", "text"] (defScope s_Words_init) :=
  ⟨rfl, rfl, rfl, by decide +kernel, rfl, by decide +kernel, by decide +kernel⟩
abbrev s_Words_left : Stmt := inClass (top 13) 1
theorem sc_Words_left : FnScope ["self"] ["self"] (defScope s_Words_left) :=
  ⟨rfl, rfl, rfl, by decide +kernel, rfl, by decide +kernel, by decide +kernel⟩
abbrev s_Words_coming : Stmt := inClass (top 13) 2
theorem sc_Words_coming : FnScope ["self"] ["self"] (defScope s_Words_coming) :=
  ⟨rfl, rfl, rfl, by decide +kernel, rfl, by decide +kernel, by decide +kernel⟩
abbrev s_Words_next_word : Stmt := inClass (top 13) 3
theorem sc_Words_next_word : FnScope ["self"] ["self"] (defScope s_Words_next_word) :=
  ⟨rfl, rfl, rfl, by decide +kernel, rfl, by decide +kernel, by decide +kernel⟩
abbrev s_Words_choice : Stmt := inClass (top 13) 4
theorem sc_Words_choice : FnScope ["self", "allowed", "word"] ["self", "allowed"] (defScope s_Words_choice) :=
  ⟨rfl, rfl, rfl, by decide +kernel, rfl, by decide +kernel, by decide +kernel⟩
abbrev s_Words_name : Stmt := inClass (top 13) 5
theorem sc_Words_name : FnScope ["self", "word"] ["self"] (defScope s_Words_name) :=
  ⟨rfl, rfl, rfl, by decide +kernel, rfl, by decide +kernel, by decide +kernel⟩
abbrev s_Words_number : Stmt := inClass (top 13) 6
theorem sc_Words_number : FnScope ["self", "word"] ["self"] (defScope s_Words_number) :=
  ⟨rfl, rfl, rfl, by decide +kernel, rfl, by decide +kernel, by decide +kernel⟩
abbrev s_Words_signed : Stmt := inClass (top 13) 7
theorem sc_Words_signed : FnScope ["self", "word"] ["self"] (defScope s_Words_signed) :=
  ⟨rfl, rfl, rfl, by decide +kernel, rfl, by decide +kernel, by decide +kernel⟩
abbrev s_Words_end : Stmt := inClass (top 13) 8
theorem sc_Words_end : FnScope ["self"] ["self"] (defScope s_Words_end) :=
  ⟨rfl, rfl, rfl, by decide +kernel, rfl, by decide +kernel, by decide +kernel⟩
abbrev s_change_text : Stmt := top 17
theorem sc_change_text : FnScope ["change", "kind", "value", "told"] ["change"] (defScope s_change_text) :=
  ⟨rfl, rfl, rfl, by decide +kernel, rfl, by decide +kernel, by decide +kernel⟩
abbrev s_clearance_text : Stmt := top 18
theorem sc_clearance_text : FnScope ["clearance", "flight", "number", "tick", "change"] ["clearance"] (defScope s_clearance_text) :=
  ⟨rfl, rfl, rfl, by decide +kernel, rfl, by decide +kernel, by decide +kernel⟩
abbrev s_read_change : Stmt := top 19
theorem sc_read_change : FnScope ["words", "word", "names"] ["words"] (defScope s_read_change) :=
  ⟨rfl, rfl, rfl, by decide +kernel, rfl, by decide +kernel, by decide +kernel⟩
abbrev s_read_clearance_words : Stmt := top 20
theorem sc_read_clearance_words : FnScope ["words", "flight", "number", "tick"] ["words"] (defScope s_read_clearance_words) :=
  ⟨rfl, rfl, rfl, by decide +kernel, rfl, by decide +kernel, by decide +kernel⟩
abbrev s_message_text : Stmt := top 24
theorem sc_message_text : FnScope ["message", "kind"] ["message"] (defScope s_message_text) :=
  ⟨rfl, rfl, rfl, by decide +kernel, rfl, by decide +kernel, by decide +kernel⟩
abbrev s_read_message_words : Stmt := top 25
theorem sc_read_message_words : FnScope ["words", "word", "kind", "flight"] ["words"] (defScope s_read_message_words) :=
  ⟨rfl, rfl, rfl, by decide +kernel, rfl, by decide +kernel, by decide +kernel⟩
abbrev s_request_text : Stmt := top 27
theorem sc_request_text : FnScope ["request", "flight", "kind", "start", "goal", "level", "wanted", "tick", "late", "numbers", "number"] ["request"] (defScope s_request_text) :=
  ⟨rfl, rfl, rfl, by decide +kernel, rfl, by decide +kernel, by decide +kernel⟩
abbrev s_read_request_words : Stmt := top 28
theorem sc_read_request_words : FnScope ["words", "flight", "kind", "start", "goal", "level", "wanted", "tick", "late", "_"] ["words"] (defScope s_read_request_words) :=
  ⟨rfl, rfl, rfl, by decide +kernel, rfl, by decide +kernel, by decide +kernel⟩
abbrev s_enter_text : Stmt := top 31
theorem sc_enter_text : FnScope ["told", "request"] ["told"] (defScope s_enter_text) :=
  ⟨rfl, rfl, rfl, by decide +kernel, rfl, by decide +kernel, by decide +kernel⟩
abbrev s_say_text : Stmt := top 32
theorem sc_say_text : FnScope ["told", "by", "flight", "change", "tick"] ["told"] (defScope s_say_text) :=
  ⟨rfl, rfl, rfl, by decide +kernel, rfl, by decide +kernel, by decide +kernel⟩
abbrev s_solve_text : Stmt := top 33
theorem sc_solve_text : FnScope ["told", "by", "flight", "changes", "tick", "head", "change"] ["told"] (defScope s_solve_text) :=
  ⟨rfl, rfl, rfl, by decide +kernel, rfl, by decide +kernel, by decide +kernel⟩
abbrev s_hear_text : Stmt := top 34
theorem sc_hear_text : FnScope ["told"] ["told"] (defScope s_hear_text) :=
  ⟨rfl, rfl, rfl, by decide +kernel, rfl, by decide +kernel, by decide +kernel⟩
abbrev s_give_text : Stmt := top 35
theorem sc_give_text : FnScope ["told"] ["told"] (defScope s_give_text) :=
  ⟨rfl, rfl, rfl, by decide +kernel, rfl, by decide +kernel, by decide +kernel⟩
abbrev s_pass_text : Stmt := top 36
theorem sc_pass_text : FnScope ["told", "flight", "kind", "number", "sender", "receiver"] ["told"] (defScope s_pass_text) :=
  ⟨rfl, rfl, rfl, by decide +kernel, rfl, by decide +kernel, by decide +kernel⟩
abbrev s_advance_text : Stmt := top 37
theorem sc_advance_text : FnScope ["told", "plot", "number"] ["told"] (defScope s_advance_text) :=
  ⟨rfl, rfl, rfl, by decide +kernel, rfl, by decide +kernel, by decide +kernel⟩
abbrev s_call_text : Stmt := top 39
theorem sc_call_text : FnScope ["call", "name", "told", "write"] ["call"] (defScope s_call_text) :=
  ⟨rfl, rfl, rfl, by decide +kernel, rfl, by decide +kernel, by decide +kernel⟩
abbrev s_read_enter : Stmt := top 40
theorem sc_read_enter : FnScope ["words", "requests"] ["words"] (defScope s_read_enter) :=
  ⟨rfl, rfl, rfl, by decide +kernel, rfl, by decide +kernel, by decide +kernel⟩
abbrev s_read_say : Stmt := top 41
theorem sc_read_say : FnScope ["words", "by", "flight", "tick"] ["words"] (defScope s_read_say) :=
  ⟨rfl, rfl, rfl, by decide +kernel, rfl, by decide +kernel, by decide +kernel⟩
abbrev s_read_solve : Stmt := top 42
theorem sc_read_solve : FnScope ["words", "by", "flight", "tick", "changes"] ["words"] (defScope s_read_solve) :=
  ⟨rfl, rfl, rfl, by decide +kernel, rfl, by decide +kernel, by decide +kernel⟩
abbrev s_read_hear : Stmt := top 43
theorem sc_read_hear : FnScope ["words"] ["words"] (defScope s_read_hear) :=
  ⟨rfl, rfl, rfl, by decide +kernel, rfl, by decide +kernel, by decide +kernel⟩
abbrev s_read_give : Stmt := top 44
theorem sc_read_give : FnScope ["words", "names", "_"] ["words"] (defScope s_read_give) :=
  ⟨rfl, rfl, rfl, by decide +kernel, rfl, by decide +kernel, by decide +kernel⟩
abbrev s_read_pass : Stmt := top 45
theorem sc_read_pass : FnScope ["words", "flight", "kind", "number", "sender"] ["words"] (defScope s_read_pass) :=
  ⟨rfl, rfl, rfl, by decide +kernel, rfl, by decide +kernel, by decide +kernel⟩
abbrev s_read_advance : Stmt := top 46
theorem sc_read_advance : FnScope ["words", "plots", "coordinates", "_"] ["words"] (defScope s_read_advance) :=
  ⟨rfl, rfl, rfl, by decide +kernel, rfl, by decide +kernel, by decide +kernel⟩
abbrev s_read_call : Stmt := top 48
theorem sc_read_call : FnScope ["text", "words", "word", "read", "call"] ["text"] (defScope s_read_call) :=
  ⟨rfl, rfl, rfl, by decide +kernel, rfl, by decide +kernel, by decide +kernel⟩
abbrev s_text_sum : Stmt := top 51
theorem sc_text_sum : FnScope ["text"] ["text"] (defScope s_text_sum) :=
  ⟨rfl, rfl, rfl, by decide +kernel, rfl, by decide +kernel, by decide +kernel⟩
abbrev s_line_of : Stmt := top 52
theorem sc_line_of : FnScope ["number", "call", "text"] ["number", "call"] (defScope s_line_of) :=
  ⟨rfl, rfl, rfl, by decide +kernel, rfl, by decide +kernel, by decide +kernel⟩
abbrev s_journal_text : Stmt := top 53
theorem sc_journal_text : FnScope ["log", "number", "call"] ["log"] (defScope s_journal_text) :=
  ⟨rfl, rfl, rfl, by decide +kernel, rfl, by decide +kernel, by decide +kernel⟩
abbrev s_read_line : Stmt := top 54
theorem sc_read_line : FnScope ["number", "line", "head", "_", "rest", "told", "text"] ["number", "line"] (defScope s_read_line) :=
  ⟨rfl, rfl, rfl, by decide +kernel, rfl, by decide +kernel, by decide +kernel⟩
abbrev s_read_journal : Stmt := top 55
theorem sc_read_journal : FnScope ["text", "calls", "line", "call"] ["text"] (defScope s_read_journal) :=
  ⟨rfl, rfl, rfl, by decide +kernel, rfl, by decide +kernel, by decide +kernel⟩
abbrev s_law_start : Stmt := top 57
theorem sc_law_start : FnScope ["_law_script", "_law_cell"] ["_law_script"] (defScope s_law_start) :=
  ⟨rfl, rfl, rfl, by decide +kernel, rfl, by decide +kernel, by decide +kernel⟩
abbrev s_law_draw : Stmt := top 58
theorem sc_law_draw : FnScope ["_law_state", "_law_bound", "_law_cell", "_law_number_here"] ["_law_state", "_law_bound"] (defScope s_law_draw) :=
  ⟨rfl, rfl, rfl, by decide +kernel, rfl, by decide +kernel, by decide +kernel⟩
abbrev s_law_pick : Stmt := top 59
theorem sc_law_pick : FnScope ["_law_state", "_law_things"] ["_law_state", "_law_things"] (defScope s_law_pick) :=
  ⟨rfl, rfl, rfl, by decide +kernel, rfl, by decide +kernel, by decide +kernel⟩
abbrev s_law_name : Stmt := top 62
theorem sc_law_name : FnScope ["_law_state", "_law_first", "_law_signs", "_law_k"] ["_law_state"] (defScope s_law_name) :=
  ⟨rfl, rfl, rfl, by decide +kernel, rfl, by decide +kernel, by decide +kernel⟩
abbrev s_law_number : Stmt := top 63
theorem sc_law_number : FnScope ["_law_state"] ["_law_state"] (defScope s_law_number) :=
  ⟨rfl, rfl, rfl, by decide +kernel, rfl, by decide +kernel, by decide +kernel⟩
abbrev s_law_change : Stmt := top 64
theorem sc_law_change : FnScope ["_law_state", "_law_kind", "_law_k"] ["_law_state"] (defScope s_law_change) :=
  ⟨rfl, rfl, rfl, by decide +kernel, rfl, by decide +kernel, by decide +kernel⟩
abbrev s_law_clearance : Stmt := top 65
theorem sc_law_clearance : FnScope ["_law_state"] ["_law_state"] (defScope s_law_clearance) :=
  ⟨rfl, rfl, rfl, by decide +kernel, rfl, by decide +kernel, by decide +kernel⟩
abbrev s_law_message : Stmt := top 66
theorem sc_law_message : FnScope ["_law_state", "_law_kind"] ["_law_state"] (defScope s_law_message) :=
  ⟨rfl, rfl, rfl, by decide +kernel, rfl, by decide +kernel, by decide +kernel⟩
abbrev s_law_any_request : Stmt := top 67
theorem sc_law_any_request : FnScope ["_law_state", "_law_kind", "_law_numbers", "_law_k"] ["_law_state"] (defScope s_law_any_request) :=
  ⟨rfl, rfl, rfl, by decide +kernel, rfl, by decide +kernel, by decide +kernel⟩
abbrev s_law_call : Stmt := top 68
theorem sc_law_call : FnScope ["_law_state", "_law_kind", "_law_k", "_law_changes", "_law_word", "_law_plots", "_law_j"] ["_law_state"] (defScope s_law_call) :=
  ⟨rfl, rfl, rfl, by decide +kernel, rfl, by decide +kernel, by decide +kernel⟩
abbrev s_law_change_words : Stmt := top 69
theorem sc_law_change_words : FnScope ["_law_change_here"] ["_law_change_here"] (defScope s_law_change_words) :=
  ⟨rfl, rfl, rfl, by decide +kernel, rfl, by decide +kernel, by decide +kernel⟩
abbrev s_law_clearance_words : Stmt := top 70
theorem sc_law_clearance_words : FnScope ["_law_clearance_here"] ["_law_clearance_here"] (defScope s_law_clearance_words) :=
  ⟨rfl, rfl, rfl, by decide +kernel, rfl, by decide +kernel, by decide +kernel⟩
abbrev s_law_message_words : Stmt := top 71
theorem sc_law_message_words : FnScope ["_law_message_here"] ["_law_message_here"] (defScope s_law_message_words) :=
  ⟨rfl, rfl, rfl, by decide +kernel, rfl, by decide +kernel, by decide +kernel⟩
abbrev s_law_request_words : Stmt := top 72
theorem sc_law_request_words : FnScope ["_law_request", "_law_words", "_law_number_here"] ["_law_request"] (defScope s_law_request_words) :=
  ⟨rfl, rfl, rfl, by decide +kernel, rfl, by decide +kernel, by decide +kernel⟩
abbrev s_law_joined : Stmt := top 73
theorem sc_law_joined : FnScope ["_law_parts", "_law_words", "_law_k"] ["_law_parts"] (defScope s_law_joined) :=
  ⟨rfl, rfl, rfl, by decide +kernel, rfl, by decide +kernel, by decide +kernel⟩
abbrev s_law_call_words : Stmt := top 74
theorem sc_law_call_words : FnScope ["_law_call_here", "_law_words", "_law_plot", "_law_number_here", "_law_request", "_law_change_here"] ["_law_call_here"] (defScope s_law_call_words) :=
  ⟨rfl, rfl, rfl, by decide +kernel, rfl, by decide +kernel, by decide +kernel⟩
abbrev s_law_sum : Stmt := top 75
theorem sc_law_sum : FnScope ["_law_text", "_law_total", "_law_signs", "_law_at", "_law_code"] ["_law_text"] (defScope s_law_sum) :=
  ⟨rfl, rfl, rfl, by decide +kernel, rfl, by decide +kernel, by decide +kernel⟩
abbrev s_law_line : Stmt := top 76
theorem sc_law_line : FnScope ["_law_number_here", "_law_call_here", "_law_text"] ["_law_number_here", "_law_call_here"] (defScope s_law_line) :=
  ⟨rfl, rfl, rfl, by decide +kernel, rfl, by decide +kernel, by decide +kernel⟩
abbrev s_law : Stmt := top 77
theorem sc_law : FnScope ["_law_script", "_law_state", "_law_log", "_law_kept", "_law_lines", "_law_text", "_law_cut", "_law_at", "_law_told", "_law_kind", "_law_bad", "_law_k", "_law_line_here"] ["_law_script"] (defScope s_law) :=
  ⟨rfl, rfl, rfl, by decide +kernel, rfl, by decide +kernel, by decide +kernel⟩
end K31
/-! K31, part R: TextError(at): its own __init__ with super(). -/
namespace K31
open PySem PySem.W PySem.Calls PyProof.Rows PySem.HandSPX
abbrev s_TE : Stmt := L2.inClass (top 2) 0
/-- what the written part says of TextError, at C, and of its __init__, at fI -/
structure TeTxt (K : Frag) (C fI cc cda : Addr) : Prop where
  cls : ∃ nm q N bs bm sn sub ab col dd k0 k1 k2 k3 k5, K.lookup C = some (excClassObj nm q C N bs bm true sn sub ab col dd k0 k1 k2 k3 k5 "ValueError.__new__") ∧ refsVE bm = true
  sa : findIn K (.ref C) "__setattr__" = some (some (.builtin "object.__setattr__"))
  noN : findIn K (.ref C) "at" = some none
  iC : findIn K (.ref C) "__init__" = some (some (.ref fI))
  tC : typeIn K (.ref fI) = some (.type "function")
  kC : keepIn K (.ref C) = true
  exC : subIn K (.ref C) (.type "BaseException") = some true
  veC : subIn K (.ref C) (.type "ValueError") = some true
  tyC : typeIn K (.ref C) = some (.type "type")
  te : exmOne K (.ref C) (.ref C) = some true
  su : ks_superIn K C C "__init__" = some (some (.builtin "ValueError.__init__"))
  mr : mroIn K C (.ref C) = some true
  ns : nsIn K mainGlobals "super" = some none
  op : nsIn K cStatics "thirdparty.any" = some none
  cell : ∃ cl cld csl, K.lookup cc = some ⟨cl, cld, .cell (some (.ref C)), csl⟩
  code : ∃ ccl cdd vs ccs file tf, K.lookup cda = some ⟨ccl, cdd, .fields vs, ccs⟩ ∧ vs[2]? = some (.str file tf) ∧ ((PySem.Challenge.pw_skyapart_k31_whole_journal_cut_anywhere.main.file : Str) == file) = true
  cdq : codeIn K (.ref cda) "TextError.__init__" = true
  fn : ∃ (oc : Value) (od : Option Addr) (kV doc pm : Value) (an : Option Addr) (ct : Value) (osl : Array (Option Value)),
    K.lookup fI = some ⟨oc, od, .func (fnX "__init__" "TextError.__init__" (L2.defArgs s_TE) (L2.defBody s_TE) (L2.defScope s_TE) [("__class__", cc)] .none kV doc pm an (.ref cda) ct), osl⟩
/-- what __init__ leaves of a fresh exception at x -/
structure TeEnd (h h' : Heap) (x C dx t1 : Addr) (v : Value) : Prop where
  keep : ∀ b o, b ≠ x → h.get? b = some o → h'.get? b = some o
  obj : h'.get? x = some { cls := .ref C, dict := some dx, data := .fields #[.ref t1, .none, .none, .none, .bool false, .none] }
  dbig : h.objs.size ≤ dx
  dne : dx ≠ x
  ns : h'.Ns1 dx (fun y => if y = "at" then some v else none)
section
variable {w : World} {A : Around} {E : Value → Shared → Prop} {R : Result → Shared → Prop} {s : Shared} {K : Frag} {mg : Str → Option Value} {C fI cc cda : Addr}
abbrev Pg : Program := PySem.Challenge.pw_skyapart_k31_whole_journal_cut_anywhere
theorem wp_fst (x : Str) (i : Int) (hn : i.natAbs.log2 < 1920) (hi : (sI i).length ≤ 100) (hx : x.length ≤ 100) {j : Nat} {env : Env} {e : Expr} {t : Tok} {p1 p2 p3 : Pos} {s : Shared} {Q : Value → Shared → Prop} (he : ∀ s1 Q', Q' (.int i t) s1 → s1.heap = s.heap → wpAny (model Pg w) A (eval e env) Q' E s1)
    (h : ∀ y u tk, Q (.str y u) { s with toks := tk }) : wpAny (model Pg w) A (eval (.JoinedStr [.Constant (.str x) j p1, .FormattedValue e 114 none p2] p3) env) Q E s := by
  refine wpAny_JoinedStr ?_
  have e0 : evalEach [.Constant (.str x) j p1, .FormattedValue e 114 none p2] env = [eval (.Constant (.str x) j p1) env, eval (.FormattedValue e 114 none p2) env] := by first | rfl | simp [evalEach]
  rw [e0]
  have l0 : (Str.empty ++ x).length = x.length := by
    rw [TL.len_tl, TL.tl_append, List.length_append, TL.len_tl x]
    exact Nat.zero_add _
  have l1 : (Str.empty ++ x).length ≤ sizeLine := by
    rw [l0, sizeLine_eq]
    omega
  have l2 : (Str.empty ++ x ++ sI i).length ≤ sizeLine := by
    rw [TL.len_tl, TL.tl_append, List.length_append, ← TL.len_tl, ← TL.len_tl, l0, sizeLine_eq]
    omega
  refine Constant_str ⟨x, _, rfl, l1, ?_⟩
  refine wpAny_FormattedValue_repr (he _ _ (pyReprObj_int hn ?_) rfl)
  refine formatField_str (fun t' tk => ?_) (int_text_fits hn)
  exact ⟨sI i, t', rfl, l2, l2, h _ _ _⟩
theorem _root_.PySem.W.Frag.In.keepBut {K : Frag} {h h' : Heap} {x : Addr} (X : K.In h) (hx : K.lookup x = none) (k : ∀ b o, b ≠ x → h.get? b = some o → h'.get? b = some o) : K.In h' := fun a o e =>
  k a o (fun z => by rw [z, hx] at e; cases e) (X a o e)
abbrev teEnv (L fI cda cc : Addr) : Env := ksEnv "TextError.__init__" (L2.defScope s_TE) L fI (.ref cda) cc
/-- super().__init__ of the exception, called -/
theorem te_super (T : TeTxt K C fI cc cda) {u e t0 : Addr} {rest : List Value} {Q : Value → Shared → Prop} (X : K.In s.heap) (he : s.heap.get? e = some (excO C t0)) (hu : s.heap.get? u = some (kxs_mw "ValueError.__init__" e)) (hz : rest.length ≤ sizeLine)
    (hq : ∀ h' t1, (∀ b o, b ≠ e → s.heap.get? b = some o → h'.get? b = some o) → h'.get? e = some (excO C t1) → Q .none { s with heap := h' }) :
    wpAny (model Pg w) A (call (.ref u) rest) Q E s := by
  obtain ⟨nm, q, N, bs, bm, sn, sub, ab, col, dd, k0, k1, k2, k3, k5, hC, hbm⟩ := T.cls
  have hC := X _ _ hC
  obtain ⟨hh, g, d, tk, os⟩ := s
  refine wpAny_call (codeAny_of_tree ?_)
  show wpAny _ A.in1 (callAny (.ref u) ⟨rest, []⟩) _ _ _
  simp only [callAny]
  refine wpAny_bind (wpAny_load hu ?_)
  simp only [kxs_mw, show (Value.type "method-wrapper" == Value.type "method" || Value.type "method-wrapper" == Value.type "builtin_function_or_method" || Value.type "method-wrapper" == Value.type "method-wrapper") = true by decide, if_true]
  refine KFB.if_so (by decide) ?_
  refine wpAny_bind (check_bound_init F.excBase_ValueError.toExcCallFacts hC he rfl ?_)
  refine wpAny_bind (wpAny_pure (wpAny_pure ?_))
  refine ⟨plainId_quiet F.excBase_ValueError.init.plain _, codeAny_builtin F.excBase_ValueError.initEntry ?_⟩
  exact exc_init_tree (cls := .ref C) (t0 := t0) (dv := none) (c2 := .none) (c3 := .none) (b4 := .bool false) he hz fun h' k e' _ => hq h' _ k e'
theorem te_init (T : TeTxt K C fI cc cda) {x t0 : Addr} {i : Int} {t : Tok} (X : K.In s.heap) (hlim : s.heap.NoLimit) (hG : s.heap.Ns mainGlobals mg) (hms : mg "super" = none) (hB : ∃ mb, s.heap.Ns builtinsNs mb ∧ mb "super" = some (.type "super"))
    (hx : s.heap.get? x = some (excO C t0)) (hnx : K.lookup x = none) (hroom : A.depth < recursionLimit) (hn : i.natAbs.log2 < 1920) (hi : (sI i).length ≤ 100)
    (hq : ∀ h' tk dx t1, TeEnd s.heap h' x C dx t1 (.int i t) → R (.ok (.ret .none)) { s with heap := h', toks := tk }) :
    codeAny (model Pg w) A (.call (.ref fI) ⟨[.ref x, .int i t], []⟩) R s := by
  obtain ⟨oc, od, kV, doc, pm, an, ct, osl, ho⟩ := T.fn
  obtain ⟨nm, q, N, bs, bm, sn, sub, ab, col, dd, k0, k1, k2, k3, k5, hC, hbm⟩ := T.cls
  obtain ⟨cl, cld, csl, hcell⟩ := T.cell
  obtain ⟨ccl, cdd, vs, ccs, file, tf, hcode, hvs, hfile⟩ := T.code
  have hcl : clsIn K C = some { name := nm, bases := bs, mro := .ref C :: bm, ns := N, qualname := q, hasDict := true, slotNames := sn, subclasses := sub, abstract := ab, collection := col, hasDel := false } := by unfold clsIn; rw [hC] <;> rfl
  refine ks_codeAny_call_defAt (fd := ksFn "__init__" "TextError.__init__" (L2.defArgs s_TE) (L2.defBody s_TE) (L2.defScope s_TE) .none kV doc pm an (.ref cda) ct cc) (binds := [("self", .ref x), ("at", .int i t)]) hroom (X _ _ ho) rfl hlim (codeRec_of X T.cdq) rfl
    (BindsTo.of_eq (by first | rfl | with_unfolding_all rfl)) (show ∀ x ∈ (L2.defScope s_TE).names, x.2 ≠ .cell by decide +kernel)
    (fun y hy => ?_) (fun h₁ hns hk₁ => ?_) rfl rfl rfl
  · rcases List.mem_cons.mp hy with e | e
    · rw [e]
      rfl
    · rw [List.mem_singleton.mp e]
      rfl
  have X₁ : K.In h₁ := X.keeps hk₁
  have hx₁ := hk₁ _ _ hx
  have hCh := X₁ _ _ hC
  have loc : ∀ {y : Str} {v : Value} {s1 : Shared} {Q : Value → Shared → Prop} {E' : Value → Shared → Prop} {A' : Around} {ps : Pos}, ([(("at" : Str), Value.int i t), (("self" : Str), Value.ref x)] : List (Str × Value)).lookup y = some v → (L2.defScope s_TE).names.lookup y = some .local →
      s1.heap.get? s.heap.objs.size = h₁.get? s.heap.objs.size → (y == ("__debug__" : Str)) = false → Q v s1 → wpAny (model Pg w) A' (eval (.Name y ps) (teEnv s.heap.objs.size fI cda cc)) Q E' s1 := fun {y v s1 Q E' A' ps} e1 e2 e3 e4 q => by
    obtain ⟨o, es, ep, ho1, r⟩ := hns
    exact wpAny_Name (wpAny_loadName_local rfl e2 ⟨o, es, ep, e3.trans ho1, r⟩ e1 q) e4
  have Lx : ∃ o, h₁.get? s.heap.objs.size = some o := by
    obtain ⟨o, es, ep, ho1, r⟩ := hns
    exact ⟨o, ho1⟩
  refine ks_wpAt_execs_cons (ks_wpAt_Expr_any (ks_wpAt_MethodCall ?_))
  obtain ⟨hh, g, d, tk, os⟩ := s
  refine ks_wpAt_super_base (env := teEnv hh.objs.size fI cda cc) rfl rfl (by decide) rfl (X₁ _ _ ho) rfl rfl rfl (X₁ _ _ hcode) rfl hvs hfile (by decide +kernel) ?_
  obtain ⟨mb, hb1, hb2⟩ := hB
  refine ks_loadName_global rfl rfl (loadGlobal_builtin (env := teEnv hh.objs.size fI cda cc) (hG.keeps hk₁) hms (hb1.keeps hk₁) hb2 ⟨rfl, ?_⟩)
  refine wpAny_loadName_free rfl rfl rfl ⟨_, X₁ _ _ hcell, rfl⟩ ?_
  refine wpAny_loadName_local rfl rfl hns rfl ?_
  refine ks_wpAny_isType_cls hCh rfl ⟨rfl, ?_⟩
  refine ks_wpAny_call_super hCh rfl hx₁ rfl (fun c e => by cases e) (looks_mroIn X₁ T.mr) (fun h₂ e₂ k₂ => ?_)
  have k12 : ∀ b o, hh.get? b = some o → h₂.get? b = some o := fun b o e => k₂ b o (hk₁ b o e)
  have X₂ : K.In h₂ := X₁.keeps k₂
  have hx₂ := k₂ _ _ hx₁
  have I₂ : InstAt h₂ x (excO C t0) C none := ⟨hx₂, rfl, rfl, trivial⟩
  have hsu := T.su
  unfold ks_superIn at hsu
  rw [hcl] at hsu
  refine kxs_getMethod kxs_ValueError e₂ (looks_opaque X₂ T.op) (l₀ := .ref C :: bm) (fun A Q E s k q => wpAny_bind ((looks_clsIn X₂ hcl) A _ E s k (wpAny_pure q))) rfl X₂ hsu (I₂.type.andThen (looks_subIn X₂ T.veC)) (ks_ne X₂ I₂ hcl) rfl ?_
  have k3 : ∀ b o, h₂.get? b = some o → (h₂.push (kxs_mw "ValueError.__init__" x)).get? b = some o := fun b o e => Heap.get?_push_of_some _ e
  have e3 : (h₂.push (kxs_mw "ValueError.__init__" x)).get? h₂.objs.size = some (kxs_mw "ValueError.__init__" x) := Heap.get?_push_size _ rfl
  refine kxs_callWith (i := "ValueError.__init__") (x := x) (by rfl) (evalArgs_plain (spliced_cons ?_))
  refine wp_fst "at " i hn hi (by decide +kernel) (p3 := ⟨7, 25, 7, 37⟩) (t := t) (fun s1 Q' q hs => ?_) fun y u tk' => spliced_nil ⟨e3, ?_⟩
  · refine loc (y := "at") (v := .int i t) rfl rfl ?_ (by decide +kernel) q
    rw [hs]
    obtain ⟨o, eo⟩ := Lx
    show (h₂.push (kxs_mw "ValueError.__init__" x)).get? hh.objs.size = h₁.get? hh.objs.size
    rw [eo]
    exact k3 _ _ (k₂ _ _ eo)
  · show wpAny _ _ (call (.ref h₂.objs.size) ([] ++ [.str y u])) _ _ _
    refine te_super T (s := ⟨h₂.push (kxs_mw "ValueError.__init__" x), g, d, tk', os⟩) (X₂.keeps k3) (k3 _ _ hx₂) e3 (by rw [sizeLine_eq]; show 1 ≤ _; decide) fun h₄ t4 k₄ e₄ => ?_
    show PySem.wpAt _ _ _ _ _ _ _
    have Lk : ∀ o, h₁.get? hh.objs.size = some o → h₄.get? hh.objs.size = some o := fun o e => k₄ _ _ (fun z => by
      have q := Heap.lt_size hx
      rw [← z] at q
      exact Nat.lt_irrefl _ q) (k3 _ _ (k₂ _ _ e))
    have Lq : h₄.get? hh.objs.size = h₁.get? hh.objs.size := by
      obtain ⟨o, eo⟩ := Lx
      rw [eo]
      exact Lk o eo
    have X₄ : K.In h₄ := (X.keeps fun b o e => k3 b o (k12 b o e)).keepBut hnx k₄
    have lt4 : hh.objs.size < h₄.objs.size := by
      obtain ⟨o, eo⟩ := Lx
      exact Heap.lt_size (Lk o eo)
    refine ks_wpAt_execs_cons (ks_wpAt_Assign_Attr ?_)
    refine wpAt_of_wpAny (loc (y := "at") (v := .int i t) (s1 := ⟨h₄, g, d, tk', os⟩) rfl rfl Lq (by decide +kernel) ?_)
    refine loc (y := "self") (v := .ref x) (s1 := ⟨h₄, g, d, tk', os⟩) rfl rfl Lq (by decide +kernel) ?_
    refine set_plain X₄ (ox := excO C t4) (od := none) ⟨e₄, rfl, rfl, trivial⟩ T.sa ?_
    refine exc_osa X₄ e₄ hcl (show refsVE (.ref C :: bm) = true from hbm) rfl T.noN (fun h₅ tk₅ dx k₅ dn dne hx₅ hn₅ => ?_)
    refine wpAt_of_wpAny (wpAny_execs_nil ?_)
    exact hq h₅ tk₅ dx t4 ⟨fun b o hb e => k₅ b o hb (k₄ b o hb (k3 b o (k12 b o e))), hx₅, Nat.le_trans (Nat.le_of_lt lt4) dn, dne, hn₅⟩
/-- a TextError that was made -/
structure TeMade (h h' : Heap) (e C d : Addr) (v : Value) : Prop where
  keep : ∀ b o, h.get? b = some o → h'.get? b = some o
  new : h.objs.size ≤ e
  obj : ∃ oe vs, h'.get? e = some oe ∧ oe.cls = .ref C ∧ oe.dict = some d ∧ oe.data = .fields vs ∧ vs[1]? = some .none
  dbig : h.objs.size ≤ d
  dne : d ≠ e
  ns : h'.Ns1 d (fun y => if y = "at" then some v else none)
theorem te_made (T : TeTxt K C fI cc cda) {i : Int} {t : Tok} (X : K.In s.heap) (hlim : s.heap.NoLimit) (hG : s.heap.Ns mainGlobals mg) (hms : mg "super" = none) (hB : ∃ mb, s.heap.Ns builtinsNs mb ∧ mb "super" = some (.type "super"))
    (hroom : A.depth + 1 < recursionLimit) (hn : i.natAbs.log2 < 1920) (hi : (sI i).length ≤ 100)
    (hq : ∀ h' tk e d, TeMade s.heap h' e C d (.int i t) → R (.ok (.ret (.ref e))) { s with heap := h', toks := tk }) :
    codeAny (model Pg w) A (.call (.ref C) ⟨[.int i t], []⟩) R s := by
  obtain ⟨nm, q, N, bs, bm, sn, sub, ab, col, dd, k0, k1, k2, k3, k5, hC, hbm⟩ := T.cls
  obtain ⟨hp, g, dr, tk, os⟩ := s
  generalize ev : Value.int i t = v
  have up : ∀ b o, hp.get? b = some o → ((hp.push (kdv_tup [v])).push (excO C hp.objs.size)).get? b = some o := fun b o z => Heap.get?_push_of_some _ (Heap.get?_push_of_some _ z)
  have here : ((hp.push (kdv_tup [v])).push (excO C hp.objs.size)).get? (hp.objs.size + 1) = some (excO C hp.objs.size) := by heap_get
  have none1 : K.lookup (hp.objs.size + 1) = none := by
    cases z : K.lookup (hp.objs.size + 1) with
    | none => rfl
    | some o =>
      have y : hp.get? (hp.objs.size + 1) = some o := X _ _ z
      exact absurd (Nat.lt_of_succ_lt (Heap.lt_size y)) (Nat.lt_irrefl _)
  have sz1 : [v].length ≤ sizeLine := by
    rw [sizeLine_eq]
    exact (by decide : 1 ≤ 16777216)
  refine call_own F.excBase_ValueError (fun Y => refsVE_contains Y bm hbm) (X _ _ hC) (looks_findIn X T.iC) (fun self => bind_fn X self T.tC) sz1 ?_
  rw [← ev]
  rw [← ev] at up here
  obtain ⟨mb, hb1, hb2⟩ := hB
  refine te_init (s := ⟨(hp.push (kdv_tup [Value.int i t])).push (excO C hp.objs.size), g, dr, tk, os⟩) T (X.keeps up) (hlim.keeps up) (hG.keeps up) hms ⟨mb, hb1.keeps up, hb2⟩ here none1 ?_ hn hi fun h' tk' dx t1 M => ?_
  · show A.depth + 1 < recursionLimit
    exact hroom
  · obtain ⟨kp, hx, dn, dne, hns⟩ := M
    have old : ∀ b o, hp.get? b = some o → h'.get? b = some o := fun b o z => kp b o (Nat.ne_of_lt (Nat.lt_succ_of_lt (Heap.lt_size z))) (up b o z)
    have big : hp.objs.size + 1 + 1 ≤ dx := by
      have q := dn
      rw [Heap.size_push, Heap.size_push] at q
      exact q
    exact ⟨rfl, hq h' tk' (hp.objs.size + 1) dx ⟨old, Nat.le_succ _, ⟨_, _, hx, rfl, rfl, rfl, rfl⟩, Nat.le_trans (Nat.le_trans (Nat.le_succ _) (Nat.le_succ _)) big, dne, hns⟩⟩
end
end K31
namespace K31
open PySem PySem.Spec PyProof.Rows L2
theorem relO_at {v : V} {v' : Value} (r : RelV v v') (f : Str) : RelO (List.lookup f [(("at" : Str), v)]) (if f = "at" then some v' else none) := by
  by_cases hw : f = "at"
  · rw [hw, if_pos rfl]
    have q : List.lookup ("at" : Str) [(("at" : Str), v)] = some v := by simp [List.lookup]
    rw [q]
    exact r
  · rw [if_neg hw]
    have qw : (f == ("at" : Str)) = false := by simpa using hw
    have q2 : List.lookup f [(("at" : Str), v)] = none := by simp [List.lookup, qw]
    rw [q2]
    trivial
section
variable {X : Cx} {C fI cc cda : Addr}
/-- TextError(e): the exception's own dict is new -/
def tMkTE (C : Addr) (ta : TA) : L2.St → Hp → XK → Prop := fun σ H Q => ta σ H fun vs H1 => ∃ i : Int, vs = [.int i] ∧ i.natAbs.log2 < 1920 ∧ (sI i).length ≤ 100 ∧ ∀ d, H1 d = none → Q (.ref C) (some d) (upd H1 d (.xd [(("at" : Str), V.int i)]))
theorem pmk_te {a : Expr} {ta : TA} {p pos : Pos} {k : Nat} (hP : X.prog = Pg) (T : TeTxt X.K C fI cc cda) (gC : X.mg "TextError" = some (.ref C)) (gS : X.mg "super" = none) (hr : Room k X.A) (ha : PA X [a] ta) (hg : Gl X "TextError" := by rfl)
    (he : starEach (a :: []) X.env = (false, eval a X.env) :: starEach [] X.env := by rfl) (hpl : (backTo pos (starEach [] X.env)).any (·.1) = false := by rfl) : PMk X (.Call (.Name "TextError" p) [a] [] pos) (tMkTE C ta) := by
  intro pins s σ H Q I h
  refine wpAny_Call_Name_kw (ld_glob I hg gC ?_)
  refine PySem.W.callWith_K (h₀ := X.base) I.ok.mod.kin T.kC (thn (ha.run pos pins s σ H _ I h) fun us s1 hh => ?_) he hpl
  obtain ⟨vs, H1, I1, r1, i, ev, hn, hi, q1⟩ := hh
  subst ev
  refine ⟨I1.kIn, ?_⟩
  cases r1 with
  | cons rv rn =>
    rename_i v' us'
    cases rn
    obtain ⟨t, rfl⟩ := rv
    show wpAny _ _ (call (.ref C) [.int i t]) _ _ _
    have hlim := I1.nolimit
    have kB := I1.bk
    obtain ⟨hp, g, dr, tk, os⟩ := s1
    obtain ⟨mb, hb1, hb2⟩ := I1.ok.mod.blt
    rw [hP]
    refine wpAny_call (te_made (mg := X.mg) T I1.kIn hlim (I1.ok.mod.glob.keeps kB) gS ⟨mb, hb1.keeps kB, (hb2 _ (by decide +kernel)).trans (by decide +kernel)⟩ (by have := hr.dp; omega) hn hi fun h' tk' e d M => ?_)
    show MkP X pins σ Q (.ref e) ⟨h', g, dr, tk', os⟩
    obtain ⟨oe, fv, hoe, hc, hd, hdat, h1⟩ := M.obj
    have hns := M.ns
    obtain ⟨G', g1, g2⟩ := restrict h' fun b => decide (b ≠ e)
    have gk : ∀ b, b ≠ e → G'.get? b = h'.get? b := fun b hb => g1 b (decide_eq_true hb)
    have ge : G'.get? e = none := g2 e (by simp)
    have old : ∀ b o, hp.get? b = some o → G'.get? b = some o := fun b o q => (gk b (Nat.ne_of_lt (Nat.lt_of_lt_of_le (Heap.lt_size q) M.new))).trans (M.keep b o q)
    have hfr : H1 d = none := I1.hok.fresh M.dbig
    have hfe : H1 e = none := I1.hok.fresh M.new
    have ob : ObjOk X.prog X.w (upd H1 d (.xd [(("at" : Str), V.int i)])) G' d (.xd [(("at" : Str), V.int i)]) :=
      ⟨_, hns.at (fun o q => (gk d M.dne).trans q), fun f => relO_at (v := .int i) ⟨t, rfl⟩ f⟩
    have J : Inv X pins σ (upd H1 d (.xd [(("at" : Str), V.int i)])) ⟨G', g, dr, tk', os⟩ := I1.laid (t' := tk') old M.dbig ob
    refine ⟨e, oe, fv, ⟨G', g, dr, tk', os⟩, _, .ref C, some d, rfl, J, fun b o q => ?_, ge, hoe, ⟨hc, hd⟩, hdat, h1, ?_, rfl, I1.bare, raises_own T.exC T.tyC, q1 d hfr⟩
    · by_cases hb : b = e
      · have q' : G'.get? b = some o := q
        rw [hb, ge] at q'
        cases q'
      · exact (gk b hb).symm.trans q
    · rw [upd_ne (Ne.symm M.dne)]
      exact hfe
/-- raise TextError(e) -/
def tRsTE (C : Addr) (W : WX) (ta : TA) : TS := fun _ σ H => tMkTE C ta σ H fun cls d H' => W cls d σ H'
theorem ps_rsTE {a : Expr} {ta : TA} {W : WX} {p pos pos2 : Pos} {k : Nat} (hc : X.calm = true) (hP : X.prog = Pg) (T : TeTxt X.K C fI cc cda) (gC : X.mg "TextError" = some (.ref C)) (gS : X.mg "super" = none) (hr : Room k X.A) (tk : Takes X W) (ha : PA X [a] ta) (hg : Gl X "TextError" := by rfl)
    (he : starEach (a :: []) X.env = (false, eval a X.env) :: starEach [] X.env := by rfl) (hpl : (backTo pos (starEach [] X.env)).any (·.1) = false := by rfl) :
    PS X (.Raise (some (.Call (.Name "TextError" p) [a] [] pos)) none pos2) (tRsTE C W ta) := ps_raise hc tk (pmk_te hP T gC gS hr ha hg he hpl)
end
end K31
/-! K31, part G: all(sign in NAME for sign in text), sum(.. for at, sign in enumerate(text)). -/
namespace K31
open PySem PySem.Spec PyProof.Rows L2 GxR
section
variable {X : Cx} {pins : List (Addr × Obj)} {σ : L2.St} {H H1 : Hp} {s s1 s2 : Shared}
/-- the code object of the generator expression, then what it calls built-in -/
theorem code_stage {c P : Addr} {gpos : Pos} {qn : Str} {scope : Scope} {ps : Array Value} {E : Value → Shared → Prop} {Q : Value → Addr → Shared → Prop}
    (TB : TabB X.base X.mg c P) (hcode : X.env.code = .ref c) (I : Inv X pins σ H s) (hP : H P = some (.tbl ps)) (ht : TriplesOk ps.toList)
    (k : ∀ b o, s.heap.get? b = some o → s2.heap.get? b = some o)
    (hQ : ∀ code h3 tk (more : Array Value), Heap.ExtBut P s2.heap h3 → s2.heap.objs.size ≤ h3.objs.size → h3.get? P = some { cls := .none, data := .fields (ps ++ more) } → TriplesOk (ps ++ more).toList →
      Q code builtinsNs { s2 with heap := h3, toks := tk }) :
    wpAny (model X.prog X.w) X.A (genexprCode X.env gpos qn scope) (fun code s₃ => wpAny (model X.prog X.w) X.A (builtinsFor X.env.globals X.env.builtins) (fun bi s₄ => Q code bi s₄) E s₃) E s2 := by
  have q0 : s.heap.get? P = some { cls := .none, data := .fields ps } := I.hok P _ hP
  have q2 := k _ _ q0
  have cd : PySem.W.CodeHd s2.heap c P := TB.code.keeps fun b u e => k b u (I.bk b u e)
  obtain ⟨bm, ob, e1, e2, e3, e4, e5, e6, e7, e8⟩ := TB.bm
  have tail : ∀ code h3 tk (more : Array Value), Heap.ExtBut P s2.heap h3 → s2.heap.objs.size ≤ h3.objs.size → h3.get? P = some { cls := .none, data := .fields (ps ++ more) } → TriplesOk (ps ++ more).toList →
      wpAny (model X.prog X.w) X.A (builtinsFor X.env.globals X.env.builtins) (fun bi s₄ => Q code bi s₄) E { s2 with heap := h3, toks := tk } := by
    intro code h3 tk more hx hsz h3P h3t
    refine wpAny_builtinsFor (m := X.mg) ?_ e1 e2 (hx _ _ e4 (k _ _ (I.bk _ _ e5))) e6 e7 e8 (hQ code h3 tk more hx hsz h3P h3t)
    rw [I.ok.glob]
    exact ((I.mod.glob.keeps I.bk).keeps k).extBut hx TB.gP
  cases hf : codeAmong gpos ps.toList with
  | none =>
    refine wpAny_genexprCodeX hcode (cd.code q2 ht) (cd.tab q2) hf fun c' h' tk hx hge hlt hco _ htab _ => ?_
    obtain ⟨o1, vs, f1, tf, fl, tg, inF, tx, tt, op, _, _, _, _, _, _, _, _, _, htr, _⟩ := hco
    exact tail _ h' tk _ hx (Nat.le_trans hge (Nat.le_of_lt hlt)) htab.2 htr
  | some cv =>
    refine wpAny_genexprCode_hit hcode (cd.code q2 ht) hf ?_
    exact tail cv s2.heap s2.toks #[] (Heap.ExtBut.refl _ _) (Nat.le_refl _) (by rw [Array.append_empty]; exact q2) (by rw [Array.append_empty]; exact ht)
/-- behind the generator: the table has grown -/
theorem gen_back {P : Addr} {ps more : Array Value} {wr : List Addr} {G : Array GenState → Array GenState → Prop} {s5 s' : Shared} (I1 : Inv X pins σ H1 s1) (hP : H1 P = some (.tbl ps)) (hm : Moved wr G s5 s')
    (k : ∀ b u, b ≠ P → s1.heap.get? b = some u → s5.heap.get? b = some u) (h5 : s5.heap.get? P = some { cls := .none, data := .fields (ps ++ more) }) (hw : ∀ b u, s1.heap.get? b = some u → b ∉ wr) (hb : AllBare s'.gens) (ho : s'.os = s1.os) :
    Inv X pins σ (upd H1 P (.tbl (ps ++ more))) s' := by
  have q0 : s1.heap.get? P = some { cls := .none, data := .fields ps } := I1.hok P _ hP
  have J := inv_tab (more := more) (h' := s'.heap) (g' := s'.gens) (d' := s'.drawn) (t' := s'.toks) I1 hP (fun b u z e => hm.heap b u (hw b u e) (k b u z e)) (hm.heap P _ (hw P _ q0) h5) hb
  rw [sh_eta s1 s' ho] at J
  exact J
theorem stat_ne {P : Addr} {ps : Array Value} {h : Heap} (l : h.NoLimit) (hP : h.get? P = some { cls := .none, data := .fields ps }) : cStatics ≠ P := fun e => by
  obtain ⟨_, hns, _⟩ := l
  obtain ⟨o', es, ep, ho, hd, _⟩ := hns
  rw [e, hP] at ho
  cases ho
  cases hd
theorem stat_lt {h : Heap} (l : h.NoLimit) : cStatics < h.objs.size := by
  obtain ⟨_, hns, _⟩ := l
  exact hns.lt

/-! ### one name over a text's signs -/
/-- the element: a test of the sign c, which may read the module's names -/
def EltG (X : Cx) (scope : Scope) (x : Str) (elt : Expr) (pb : Nat → Bool) : Prop :=
  ∀ (cenv : Env) (A' : Around) (E' : Value → Shared → Prop) (c : Nat) (t : Tok) (s₂ : Shared) (m₂ : Str → Option Value), cenv.scope = scope → cenv.globals = mainGlobals → s₂.heap.Ns mainGlobals X.mg → s₂.heap.Ns cenv.locals m₂ → m₂ x = some (.str ⟨#[c]⟩ t) →
    wpAny (model X.prog X.w) A' (eval elt cenv) (fun y s₃ => y = .bool (pb c) ∧ Keeps s₂ s₃) E' s₂
/-- x in NAME -/
theorem elt_in {scope : Scope} {x g : Str} {z : Str} {u : Tok} {p1 p2 p3 : Pos} (hk : scope.kind = .function) (hl : scope.names.lookup x = some .local) (hg : scope.names.lookup g = some .globalImplicit) (hz : X.mg g = some (.str z u))
    (hd : (x == ("__debug__" : Str)) = false := by decide) (hd2 : (g == ("__debug__" : Str)) = false := by decide) : EltG X scope x (.Compare (.Name x p1) [.In] [.Name g p2] p3) (fun c => decide (c ∈ z.cps.toList)) := by
  intro cenv A' E' c t s₂ m₂ hs hG0 hG hn hm
  refine wpAny_Compare1 (wpAny_Name (wpAny_loadName_local (by rw [hs]; exact hk) (show cenv.scope.names.lookup x = some .local by rw [hs]; exact hl) hn hm ?_) hd)
  refine Calls.Name_function_global (by rw [hs]; exact hk) ?_ (Calls.loadGlobal_global (by rw [hG0]; exact hG) hz ?_) hd2
  · show cenv.kindOf g = _
    unfold Env.kindOf
    rw [hs]
    exact hg
  · exact PyProof.Rows.in_str ⟨congrArg Value.bool (PySem.StrLaws.found_one z c), keeps_tok _ _⟩
/-- the generator g over the signs of a stands ready in s5 -/
def GenRd (X : Cx) (pins : List (Addr × Obj)) (σ : L2.St) (H1 : Hp) (P : Addr) (a : Str) (pb : Nat → Bool) (g : Addr) (s5 : Shared) : Prop :=
  ∃ (fp wr : List Addr) (G : Array GenState → Array GenState → Prop) (F : Nat → Value → Prop) (St : Nat → Shared → Prop),
    WalksS X.prog X.w X.A.in1 g fp wr G a.cps.size F St ∧ St 0 s5 ∧ TruthOf X.prog X.w X.A.in1 F (trF pb a.cps.toList) ∧ ∀ s', Moved wr G s5 s' → ∃ H2, Tabbed P H1 H2 ∧ Inv X pins σ H2 s'
theorem gen_signs {c P : Addr} {elt iter : Expr} {x : Str} {px gpos : Pos} {scope : Scope} {pb : Nat → Bool} {te : TE} {k : Nat} {Q' : Value → Shared → Prop} {R : Str → Hp → Prop}
    (hr : Room k X.A) (TB : TabB X.base X.mg c P) (hcode : X.env.code = .ref c) (S : GenS X.env scope x) (hi : PE X iter te) (hel : EltG X scope x elt pb)
    (hs : ∀ v, genFold iter X.env v = pure v) (I : Inv X pins σ H s) (h : te σ H fun v H1 => ∃ a : Str, v = .str a ∧ TabG H1 P ∧ R a H1)
    (hQ : ∀ a H1 g s5, R a H1 → GenRd X pins σ H1 P a pb g s5 → Q' (.ref g) s5) :
    wpAny (model X.prog X.w) X.A (eval (.GeneratorExp elt [⟨.Name x px, iter, [], 0⟩] scope gpos) X.env) Q' X.xe s := by
  refine wpAny_GeneratorExp_walksQ hr.hd S.co (closure_ok S.free) S.cell S.dot S.loc S.kind hr.depth ?_ hs
  refine thn (hi.run pins s σ H _ I h) fun xv s1 ⟨v, H1, I1, r1, a, ev, ⟨ps, hP, ht⟩, q1⟩ => ?_
  subst ev
  obtain ⟨t, rfl⟩ := _root_.id r1
  refine wpAny_pyIter_str fun o St W hst => ?_
  have k2 : ∀ b o', s1.heap.get? b = some o' → (s1.heap.push o).get? b = some o' := fun b o' e => Heap.get?_push_of_some _ e
  have lim : (s1.heap.push o).NoLimit := I1.nolimit.push o
  refine ⟨lim, code_stage TB hcode I1 hP ht k2 fun code h3 tk more hx hsz h3P h3t => ?_⟩
  have p0 : s1.heap.get? P = some { cls := .none, data := .fields ps } := I1.hok P _ hP
  have pl : P < s1.heap.objs.size := Heap.lt_size p0
  have z2 : (s1.heap.push o).objs.size = s1.heap.objs.size + 1 := Heap.size_push ..
  have k3 : ∀ b u, b ≠ P → s1.heap.get? b = some u → h3.get? b = some u := fun b u z e => hx b u z (k2 b u e)
  have gne : mainGlobals ≠ P := TB.gP
  have big : s1.heap.objs.size < h3.objs.size := Nat.lt_of_lt_of_le (Nat.lt_of_lt_of_eq (Nat.lt_succ_self _) z2.symm) hsz
  have G3 : h3.Ns mainGlobals X.mg := (((I1.mod.glob.keeps I1.bk).keeps k2).extBut hx gne)
  refine ⟨s1.heap.objs.size, [s1.heap.objs.size], [s1.heap.objs.size], a.cps.size, SignAt a, St, (fun _ => true), (fun i y => ∃ cc, a.cps[i]? = some cc ∧ y = .bool (pb cc)), rfl, W, ?_, ?_, lim.extBut hx (stat_ne I1.nolimit p0), ?_, ?_, ?_⟩
  · refine (W X.A hr.hd).frame _ _ _ hst fun b hb u e => hx b u (fun z => ?_) e
    rw [List.mem_singleton] at hb
    rw [← z, hb] at pl
    exact Nat.lt_irrefl _ pl
  · intro b hb
    rw [List.mem_singleton] at hb
    rw [hb]
    show s1.heap.objs.size < h3.objs.size
    exact big
  · intro z
    rw [List.mem_singleton] at z
    have q := stat_lt I1.nolimit
    rw [z] at q
    exact Nat.lt_irrefl _ q
  · intro href hh
    refine ⟨fun A' E' i v s₂ m₂ hA hPv hn hm hk => ?_, fun A' E' i v s₂ m₂ hA hPv hp hn hm hk => ?_⟩
    · simp only [List.forIn_nil]
      exact wpAny_pure ⟨rfl, keeps_refl _⟩
    · obtain ⟨cc, u, hcc, rfl⟩ := hPv
      have gl : mainGlobals < s1.heap.objs.size := (I1.mod.glob.keeps I1.bk).lt
      refine wpAny_mono (hel _ A' E' cc u s₂ m₂ rfl I1.ok.glob (G3.at' fun o' e => hk mainGlobals ?_ ?_ o' (hh _ _ e)) hn hm) (fun y s3 r => ⟨⟨cc, hcc, r.1⟩, r.2⟩) fun _ _ e => e
      · rw [List.mem_range]
        show mainGlobals < h3.objs.size
        exact G3.lt
      · intro z
        rw [List.mem_singleton] at z
        rw [z] at gl
        exact Nat.lt_irrefl _ gl
  · intro g h5 tk5 gs hgb hag hsz5 hk5 W5 hat
    simp only [GxR.passing_true, List.length_range] at W5
    refine hQ a H1 g _ q1 ⟨_, _, _, _, _, W5.in4_1, hat, ?_, fun s' hm => ?_⟩
    · intro j y sj Qj Ej hy hQj
      obtain ⟨i, hij, cc, hcc, rfl⟩ := hy
      obtain ⟨hj, ej⟩ := List.getElem?_eq_some_iff.mp hij
      rw [List.getElem_range] at ej
      subst ej
      have e9 : a.cps.toList[j]? = some cc := by rw [Array.getElem?_toList]; exact hcc
      have hQ2 : Qj (trF pb a.cps.toList j) sj := hQj
      rw [trF_some e9] at hQ2
      exact wpAny_truthy_bool hQ2
    · refine ⟨_, ⟨⟨ps ++ more, upd_same, h3t⟩, fun b hb => upd_ne hb⟩, gen_back I1 hP hm (fun b u z e => hk5 b u (k3 b u z e)) (hk5 P _ h3P) (fun b u e hb => ?_) (AllBare.movedS (I1.bare.push hgb) hm) hm.os⟩
      have hl := Heap.lt_size e
      rcases List.mem_cons.mp hb with z | z
      · rw [z] at hl
        exact Nat.lt_asymm big hl
      · rw [List.mem_singleton] at z
        rw [z] at hl
        exact Nat.lt_irrefl _ hl
/-- all(test for x in e), e a text -/
def tAllG (P : Addr) (pb : Nat → Bool) (te : TE) : TE := fun σ H Q => te σ H fun v H1 => ∃ a : Str, v = .str a ∧ TabG H1 P ∧ ∀ H2, Tabbed P H1 H2 → Q (.bl (a.cps.toList.all pb)) H2
theorem pe_allG {c P : Addr} {elt iter : Expr} {x : Str} {px p pos gpos : Pos} {scope : Scope} {pb : Nat → Bool} {te : TE} {k : Nat}
    (hr : Room k X.A) (hg : Gl X "all") (hm : X.mg "all" = none) (TB : TabB X.base X.mg c P) (hcode : X.env.code = .ref c) (S : GenS X.env scope x) (hi : PE X iter te) (hel : EltG X scope x elt pb)
    (hs : ∀ v, genFold iter X.env v = pure v)
    (he : starEach [.GeneratorExp elt [⟨.Name x px, iter, [], 0⟩] scope gpos] X.env = (false, eval (.GeneratorExp elt [⟨.Name x px, iter, [], 0⟩] scope gpos) X.env) :: starEach [] X.env := by rfl) :
    PE X (.Call (.Name "all" p) [.GeneratorExp elt [⟨.Name x px, iter, [], 0⟩] scope gpos] [] pos) (tAllG P pb te) := by
  refine ⟨fun pins s σ H Q I h => ?_⟩
  refine wpAny_Call_Name_kw (ld_blt (u := .builtin "all") I hg hm (by decide +kernel) ?_)
  refine PyProof.Rows.callWith_builtin1 ?_ he (by rfl)
  rw [he]
  show wpAny _ _ (spliced ((false, eval (.GeneratorExp elt [⟨.Name x px, iter, [], 0⟩] scope gpos) X.env) :: backTo pos (starEach [] X.env))) _ _ s
  refine Calls.spliced_cons (gen_signs (R := fun a H1 => ∀ H2, Tabbed P H1 H2 → Q (.bl (a.cps.toList.all pb)) H2) hr TB hcode S hi hel hs I h fun a H1 g s5 hR hG => Calls.spliced_nil ?_)
  obtain ⟨fp, wr, G, F, St, W, hst, htr, hI⟩ := hG
  refine call_all_walkS (W.self 0 _ _ _ hst ⟨g, fp, wr, G, _, F, St, _, rfl, W, hst, htr, fun s' hmv => ?_⟩)
  obtain ⟨H2, hT, J⟩ := hI s' hmv
  refine ⟨.bl _, H2, J, rfl, ?_⟩
  rw [all_signs a pb]
  exact hR H2 hT

/-! ### two names over enumerate(text) -/
/-- the element, of the place i and the sign c -/
def EltT (X : Cx) (scope : Scope) (xa xb : Str) (elt : Expr) (n : Nat) (val : Nat → Nat → Int) : Prop :=
  ∀ (cenv : Env) (A' : Around) (E' : Value → Shared → Prop) (i c : Nat) (ti t : Tok) (s₂ : Shared) (m₂ : Str → Option Value), i < n → cenv.scope = scope → cenv.globals = mainGlobals → cenv.builtins = builtinsNs → s₂.heap.Ns mainGlobals X.mg →
    (∃ mb, s₂.heap.Ns builtinsNs mb ∧ ∀ y : Str, y ≠ "__name__" → mb y = bootBuiltins y) → s₂.heap.Ns cenv.locals m₂ → m₂ xa = some (.int (i : Int) ti) → m₂ xb = some (.str ⟨#[c]⟩ t) →
    wpAny (model X.prog X.w) A' (eval elt cenv) (fun y s₃ => (∃ u, y = .int (val i c) u) ∧ Keeps s₂ s₃) E' s₂
/-- (at + 1) * ord(sign) -/
theorem elt_place {scope : Scope} {xa xb : Str} {n k : Nat} {p1 p2 p3 p4 p5 p6 p7 : Pos} (hk : scope.kind = .function) (ha : scope.names.lookup xa = some .local) (hb : scope.names.lookup xb = some .local) (ho : scope.names.lookup ("ord" : Str) = some .globalImplicit)
    (hm : X.mg "ord" = none) (hn : n ≤ 16777216) (da : (xa == ("__debug__" : Str)) = false := by decide) (db : (xb == ("__debug__" : Str)) = false := by decide) :
    EltT X scope xa xb (.BinOp (.BinOp (.Name xa p1) .Add (.Constant (.int 1) k p2) p3) .Mult (.Call (.Name "ord" p4) [.Name xb p5] [] p6) p7) n (fun i c => ((i : Int) + 1) * ((c : Nat) : Int)) := by
  intro cenv A' E' i c ti t s₂ m₂ hi hs hG hB G Bn hns hxa hxb
  have kd : ∀ y, cenv.kindOf y = scope.names.lookup y := fun y => by
    unfold Env.kindOf
    rw [hs]
  have hk2 : cenv.scope.kind = .function := by
    rw [hs]
    exact hk
  obtain ⟨mb, b1, b2⟩ := Bn
  refine wpAny_BinOp (wpAny_BinOp (wpAny_Name (wpAny_loadName_local hk2 ((kd xa).trans ha) hns hxa ?_) da))
  refine wpAny_Constant_int ?_
  refine PyProof.Rows.add_int ?_
  refine wpAny_Call_Name_kw (Calls.Name_function_global hk2 ((kd "ord").trans ho) (Calls.loadGlobal_builtin (mg := X.mg) (mb := mb) (by rw [hG]; exact G) hm (by rw [hB]; exact b1) ((b2 _ (by decide)).trans (show bootBuiltins "ord" = some (.builtin "ord") by decide +kernel)) ?_) (by decide))
  refine PyProof.Rows.callWith_builtin1 (e := .Name xb p5) (rest := []) (Calls.spliced_cons (wpAny_Name (wpAny_loadName_local hk2 ((kd xb).trans hb) hns hxb (Calls.spliced_nil ?_)) db))
  refine PyProof.Rows.ord_of_one rfl ?_
  refine PyProof.Rows.mul_int ?_ (CMul.ok (.inl ⟨by omega, by omega⟩))
  exact ⟨⟨_, rfl⟩, keeps_tok _ _⟩
/-- the places' values, up to j -/
def plVal (val : Nat → Nat → Int) (l : List Nat) (j : Nat) : Int := match l[j]? with
  | some c => val j c
  | none => 0
theorem plVal_some {val : Nat → Nat → Int} {l : List Nat} {j c : Nat} (h : l[j]? = some c) : plVal val l j = val j c := by
  unfold plVal
  rw [h]
def GenSum (X : Cx) (pins : List (Addr × Obj)) (σ : L2.St) (H1 : Hp) (P : Addr) (a : Str) (val : Nat → Nat → Int) (g : Addr) (s5 : Shared) : Prop :=
  ∃ (fp wr : List Addr) (G : Array GenState → Array GenState → Prop) (F : Nat → Value → Prop) (St : Nat → Shared → Prop),
    WalksS X.prog X.w X.A.in1 g fp wr G a.cps.size F St ∧ St 0 s5 ∧ (∀ b ∈ fp, b < s5.heap.objs.size) ∧ (∀ j y, F j y → ∃ u, y = .int (plVal val a.cps.toList j) u) ∧ ∀ s', Moved wr G s5 s' → ∃ H2, Tabbed P H1 H2 ∧ Inv X pins σ H2 s'
theorem gen_enum {c P : Addr} {elt iter : Expr} {xa xb : Str} {pa pb pt gpos p pos : Pos} {kt : Nat} {scope : Scope} {val : Nat → Nat → Int} {te : TE} {k N : Nat} {Q' : Value → Shared → Prop} {R : Str → Hp → Prop}
    (hr : Room k X.A) (TB : TabB X.base X.mg c P) (hcode : X.env.code = .ref c) (S : GenS X.env scope xa) (hb : scope.names.lookup xb = some .local) (hab : xa ≠ xb) (hg : Gl X "enumerate") (hme : X.mg "enumerate" = none) (hi : PE X iter te) (hel : EltT X scope xa xb elt N val)
    (hst0 : starEach [iter] X.env = (false, eval iter X.env) :: starEach [] X.env)
    (hs : ∀ v, genFold (.Call (.Name "enumerate" p) [iter] [] pos) X.env v = pure v) (I : Inv X pins σ H s) (h : te σ H fun v H1 => ∃ a : Str, v = .str a ∧ a.length ≤ N ∧ TabG H1 P ∧ R a H1)
    (hQ : ∀ a H1 g s5, R a H1 → GenSum X pins σ H1 P a val g s5 → Q' (.ref g) s5) :
    wpAny (model X.prog X.w) X.A (eval (.GeneratorExp elt [⟨.Tuple [.Name xa pa, .Name xb pb] kt pt, .Call (.Name "enumerate" p) [iter] [] pos, [], 0⟩] scope gpos) X.env) Q' X.xe s := by
  refine wpAny_GeneratorExp_walksQT hr.hd S.co (closure_ok S.free) S.cell S.dot S.loc hb hab S.kind hr.depth ?_ hs
  refine wpAny_Call_Name_kw (ld_blt (u := .type "enumerate") I hg hme (by decide +kernel) ?_)
  refine PyProof.Rows.callWith_type1 ?_ hst0 (by rfl)
  rw [hst0]
  refine Calls.spliced_cons (thn (hi.run pins s σ H _ I h) fun xv s1 ⟨v, H1, I1, r1, a, ev, hlen, ⟨ps, hP, ht⟩, q1⟩ => Calls.spliced_nil ?_)
  subst ev
  obtain ⟨t, rfl⟩ := _root_.id r1
  refine call_enumerate_str fun h2 he hit hz2 k2 => ?_
  have hhd : X.A.in1.handled = none := hr.hd
  have dl : ∀ A' : Around, A'.handled = none → Draws X.prog X.w A'.in1 s1.heap.objs.size [s1.heap.objs.size] a.cps.size (fun i v => ∃ c u, a.cps[i]? = some c ∧ v = .str ⟨#[c]⟩ u) (fun i h => h.IsStrIter s1.heap.objs.size (strIterType a) a t i) := fun A' hA => by
    unfold strIterType
    split
    · exact Draws.strAscii (show A'.in1.handled = none from hA) _ a t
    · exact Draws.strWide (show A'.in1.handled = none from hA) _ a t
  have ne1 : s1.heap.objs.size + 1 ∉ [s1.heap.objs.size] := fun z => Nat.succ_ne_self _ (List.mem_singleton.mp z)
  have W : ∀ A' : Around, A'.handled = none → _ := fun A' hA => (WalksT.enumerateD (dl A' hA) (s1.heap.objs.size + 1) (Nat.succ_ne_self _) ne1 (List.mem_singleton.mpr rfl)).toU
  have st0 : (∃ old, IsEnum h2 (s1.heap.objs.size + 1) s1.heap.objs.size ((0 : Nat) : Int) old) ∧ h2.IsStrIter s1.heap.objs.size (strIterType a) a t 0 := ⟨⟨_, he⟩, hit⟩
  refine (W X.A hr.hd).self 0 _ _ _ st0 ?_
  have lim : h2.NoLimit := I1.nolimit.keeps k2
  refine ⟨lim, code_stage TB hcode I1 hP ht k2 fun code h3 tk more hx hsz h3P h3t => ?_⟩
  have p0 : s1.heap.get? P = some { cls := .none, data := .fields ps } := I1.hok P _ hP
  have pl : P < s1.heap.objs.size := Heap.lt_size p0
  have k3 : ∀ b u, b ≠ P → s1.heap.get? b = some u → h3.get? b = some u := fun b u z e => hx b u z (k2 b u e)
  have big : s1.heap.objs.size + 2 ≤ h3.objs.size := by
    rw [← hz2]
    exact hsz
  have gl : mainGlobals < s1.heap.objs.size := (I1.mod.glob.keeps I1.bk).lt
  obtain ⟨mb, B1, B2⟩ := I1.mod.blt
  have bl : builtinsNs < s1.heap.objs.size := (B1.keeps I1.bk).lt
  have bne : builtinsNs ≠ P := fun z => by
    obtain ⟨o', es, ep, ho, hd, _⟩ := B1.keeps I1.bk
    rw [z, p0] at ho
    cases ho
    cases hd
  have G3 : h3.Ns mainGlobals X.mg := ((I1.mod.glob.keeps I1.bk).keeps k2).extBut hx TB.gP
  have B3 : h3.Ns builtinsNs mb := ((B1.keeps I1.bk).keeps k2).extBut hx bne
  have two : ∀ {b : Addr}, b ∈ [s1.heap.objs.size + 1, s1.heap.objs.size] → s1.heap.objs.size ≤ b := fun {b} hb => by
    rcases List.mem_cons.mp hb with z | z
    · rw [z]
      exact Nat.le_succ _
    · rw [List.mem_singleton.mp z]
      exact Nat.le_refl _
  refine ⟨s1.heap.objs.size + 1, _, _, a.cps.size, _, _, _, (fun _ => true), (fun i y => ∃ cc u, a.cps[i]? = some cc ∧ y = .int (val i cc) u), rfl, W, ?_, ?_, ?_, lim.extBut hx (stat_ne I1.nolimit p0), ?_, ?_, ?_⟩
  · rintro i vals ⟨t1, x, _, rfl⟩
    exact ⟨_, _, rfl⟩
  · refine (W X.A hr.hd).frame _ _ _ st0 fun b hb u e => hx b u (fun z => ?_) e
    have q : s1.heap.objs.size ≤ b := two hb
    rw [z] at q
    exact absurd pl (Nat.not_lt.mpr q)
  · intro b hb
    show b < h3.objs.size
    rcases List.mem_cons.mp hb with z | z
    · rw [z]
      exact Nat.lt_of_succ_le big
    · rw [List.mem_singleton.mp z]
      exact Nat.lt_of_succ_lt (Nat.lt_of_succ_le big)
  · intro z
    exact absurd (stat_lt I1.nolimit) (Nat.not_lt.mpr (two z))
  · intro href hh
    refine ⟨fun A' E' i va vb s₂ m₂ hA hPv hn h1 h2 hk => ?_, fun A' E' i va vb s₂ m₂ hA hPv hp hn h1 h2 hk => ?_⟩
    · simp only [List.forIn_nil]
      exact wpAny_pure ⟨rfl, keeps_refl _⟩
    · obtain ⟨t1, x, ⟨cc, u, hcc, ex⟩, e2⟩ := hPv
      have e3 : va = .int (i : Int) t1 ∧ vb = x := by simpa using e2
      obtain ⟨rfl, rfl⟩ := e3
      rw [ex] at h2
      have st : ∀ b, b < s1.heap.objs.size → ∀ o', h3.get? b = some o' → s₂.heap.get? b = some o' := fun b hb o' e => hk b (List.mem_range.mpr (show b < h3.objs.size by exact Nat.lt_trans hb (Nat.lt_of_succ_lt (Nat.lt_of_succ_le big)))) (fun z => absurd hb (Nat.not_lt.mpr (two z))) o' (hh _ _ e)
      have il : i < N := Nat.lt_of_lt_of_le (by
        rcases Nat.lt_or_ge i a.cps.size with z | z
        · exact z
        · rw [Array.getElem?_eq_none z] at hcc
          cases hcc) hlen
      exact wpAny_mono (hel _ A' E' i cc t1 u s₂ m₂ il rfl I1.ok.glob rfl (G3.at' fun o' e => st _ gl o' e) ⟨mb, B3.at' fun o' e => st _ bl o' e, B2⟩ hn h1 h2) (fun y s3 r => by
        obtain ⟨⟨u2, ey⟩, r2⟩ := r
        exact ⟨⟨cc, u2, hcc, ey⟩, r2⟩) fun _ _ e => e
  · intro g h5 tk5 gs hgb hag hsz5 hk5 W5 hat
    simp only [GxR.passing_true, List.length_range] at W5
    refine hQ a H1 g _ q1 ⟨_, _, _, _, _, W5.in4_1, hat, ?_, ?_, fun s' hm => ?_⟩
    · intro b hb
      show b < h5.objs.size
      rw [hsz5]
      have hag2 : h3.objs.size < g := hag
      rcases List.mem_cons.mp hb with z | z
      · rw [z]
        exact Nat.lt_succ_self _
      · rcases List.mem_cons.mp z with z | z
        · rw [z]
          exact Nat.lt_succ_of_lt hag2
        · exact Nat.lt_succ_of_lt (Nat.lt_trans (List.mem_range.mp z) hag2)
    · intro j y hy
      obtain ⟨i, hij, cc, u, hcc, rfl⟩ := hy
      obtain ⟨hj, ej⟩ := List.getElem?_eq_some_iff.mp hij
      rw [List.getElem_range] at ej
      subst ej
      have e9 : a.cps.toList[j]? = some cc := by rw [Array.getElem?_toList]; exact hcc
      exact ⟨u, by rw [plVal_some e9]⟩
    · refine ⟨_, ⟨⟨ps ++ more, upd_same, h3t⟩, fun b hb => upd_ne hb⟩, gen_back I1 hP hm (fun b u z e => hk5 b u (k3 b u z e)) (hk5 P _ h3P) (fun b u e hb => ?_) (AllBare.movedS (I1.bare.push hgb) hm) hm.os⟩
      have hl := Heap.lt_size e
      rcases List.mem_cons.mp hb with z | z
      · rw [z] at hl
        exact Nat.lt_asymm (Nat.lt_of_succ_lt (Nat.lt_of_succ_le big)) hl
      · exact absurd hl (Nat.not_lt.mpr (two z))
/-- sum(.. for at, sign in enumerate(e)), e a text -/
def tSumG (P : Addr) (N : Nat) (val : Nat → Nat → Int) (te : TE) : TE := fun σ H Q => te σ H fun v H1 => ∃ a : Str, v = .str a ∧ a.length ≤ N ∧ TabG H1 P ∧ ∀ H2, Tabbed P H1 H2 → Q (.int (preSum (plVal val a.cps.toList) a.cps.size)) H2
theorem pe_sumG {c P : Addr} {elt iter : Expr} {xa xb : Str} {pa pb pt gpos p pos p8 pos8 : Pos} {kt : Nat} {scope : Scope} {val : Nat → Nat → Int} {te : TE} {k N : Nat}
    (hr : Room k X.A) (TB : TabB X.base X.mg c P) (hcode : X.env.code = .ref c) (S : GenS X.env scope xa) (hb : scope.names.lookup xb = some .local) (hab : xa ≠ xb) (hg : Gl X "enumerate") (hme : X.mg "enumerate" = none) (hgs : Gl X "sum") (hms : X.mg "sum" = none)
    (hi : PE X iter te) (hel : EltT X scope xa xb elt N val)
    (hs : ∀ v, genFold (.Call (.Name "enumerate" p) [iter] [] pos) X.env v = pure v)
    (hst0 : starEach [iter] X.env = (false, eval iter X.env) :: starEach [] X.env := by rfl)
    (he : starEach [.GeneratorExp elt [⟨.Tuple [.Name xa pa, .Name xb pb] kt pt, .Call (.Name "enumerate" p) [iter] [] pos, [], 0⟩] scope gpos] X.env = (false, eval (.GeneratorExp elt [⟨.Tuple [.Name xa pa, .Name xb pb] kt pt, .Call (.Name "enumerate" p) [iter] [] pos, [], 0⟩] scope gpos) X.env) :: starEach [] X.env := by rfl) :
    PE X (.Call (.Name "sum" p8) [.GeneratorExp elt [⟨.Tuple [.Name xa pa, .Name xb pb] kt pt, .Call (.Name "enumerate" p) [iter] [] pos, [], 0⟩] scope gpos] [] pos8) (tSumG P N val te) := by
  refine ⟨fun pins s σ H Q I h => ?_⟩
  refine wpAny_Call_Name_kw (ld_blt (u := .builtin "sum") I hgs hms (by decide +kernel) ?_)
  refine PyProof.Rows.callWith_builtin1 ?_ he (by rfl)
  rw [he]
  show wpAny _ _ (spliced ((false, eval (.GeneratorExp elt [⟨.Tuple [.Name xa pa, .Name xb pb] kt pt, .Call (.Name "enumerate" p) [iter] [] pos, [], 0⟩] scope gpos) X.env) :: backTo pos8 (starEach [] X.env))) _ _ s
  refine Calls.spliced_cons (gen_enum (R := fun a H1 => ∀ H2, Tabbed P H1 H2 → Q (.int (preSum (plVal val a.cps.toList) a.cps.size)) H2) hr TB hcode S hb hab hg hme hi hel hst0 hs I h fun a H1 g s5 hR hG => Calls.spliced_nil ?_)
  obtain ⟨fp, wr, G, F, St, W, hst, hfp, hv, hI⟩ := hG
  refine call_sum_walkAnyS (W.self 0 _ _ _ hst ⟨g, fp, wr, G, _, F, St, plVal val a.cps.toList, rfl, W, hst, hfp, hv, fun s' t' hmv => ?_⟩)
  obtain ⟨H2, hT, J⟩ := hI s' hmv
  exact ⟨.int _, H2, J, ⟨_, rfl⟩, hR H2 hT⟩
end
end K31
/-! K31, part B: defs and methods by name; the Words object; the facts of the top. -/
namespace K31
open PySem PySem.Spec PyProof.Rows L2 GxR
open PySem.W (Frag)
/-! ### defs by name -/
/-- a def of the text stands under its name -/
def Df (K : Frag) (mg : Str → Option Value) (x : Str) (st : Stmt) : Prop := ∃ f fd, mg x = some (.ref f) ∧ Fun K x x st f fd
/-- a method of the class at C -/
def Mf (K : Frag) (C : Addr) (m qual : Str) (st : Stmt) : Prop := ∃ f fd, Meth K C m f ∧ Fun K m qual st f fd
/-- a def whose promise is proved -/
def Dn (P : Program) (w : World) (K : Frag) (mg : Str → Option Value) (base : Heap) (CX : CXT) (k : Nat) (x : Str) (ps : List Str) (sp : Sp) : Prop :=
  ∃ f fd, mg x = some (.ref f) ∧ PySem.W.keepIn K (.ref f) = true ∧ Binds K fd ps [] ∧ FnOk P w K mg base CX k f fd ps sp
def Mn (P : Program) (w : World) (K : Frag) (mg : Str → Option Value) (base : Heap) (CX : CXT) (k : Nat) (C : Addr) (m : Str) (ps : List Str) (sp : Sp) : Prop :=
  ∃ f fd, Meth K C m f ∧ Binds K fd ps [] ∧ FnOk P w K mg base CX k f fd ps sp
/-- the parameters bind by place -/
def BindP (x qual : Str) (st : Stmt) (ps : List Str) : Prop := ∀ (kV doc pm : Value) (an : Option Addr) (cdv ct : Value) (us : List Value), us.length = ps.length → bindArgs (PySem.W.fnOf x qual (defArgs st) (defBody st) (defScope st) .none kV doc pm an cdv ct) ⟨us, []⟩ = pure (ps.zip us)
section
variable {P : Program} {w : World} {K : Frag} {mg : Str → Option Value} {base : Heap} {CX : CXT} {k : Nat} {x qual : Str} {st : Stmt} {ps : List Str} {sp : Sp} {C : Addr}
theorem Df.dn (D : Df K mg x st) (b : BindP x x st ps) (h : ∀ f fd, Fun K x x st f fd → FnOk P w K mg base CX k f fd ps sp) : Dn P w K mg base CX k x ps sp := by
  obtain ⟨f, fd, m, F⟩ := D
  exact ⟨f, fd, m, F.kp, F.binds b, h f fd F⟩
theorem Mf.mn (D : Mf K C x qual st) (b : BindP x qual st ps) (h : ∀ f fd, Fun K x qual st f fd → FnOk P w K mg base CX k f fd ps sp) : Mn P w K mg base CX k C x ps sp := by
  obtain ⟨f, fd, m, F⟩ := D
  exact ⟨f, fd, m, F.binds b, h f fd F⟩
end
section
variable {X : Cx} {k : Nat} {x m : Str} {ps : List Str} {sp : Sp} {C : Addr} {e o : Expr} {es : List Expr} {ta : TE} {t : TA} {p pos apos : Pos}
theorem pe_df (D : Dn X.prog X.w X.K X.mg X.base CX0 k x ps sp) (hr : Room k X.A) (ha : PA X (e :: es) t) (hg : Gl X x := by rfl) (hdb : (x == ("__debug__" : Str)) = false := by decide)
    (he : starEach (e :: es) X.env = (false, eval e X.env) :: starEach es X.env := by rfl) (hpl : (backTo pos (starEach es X.env)).any (·.1) = false := by rfl) : PE X (.Call (.Name x p) (e :: es) [] pos) (tCall sp [] E0 t) := by
  obtain ⟨f, fd, m, kp, b, F⟩ := D
  exact pe_call F hr hg m kp b .nil pass0 ha hdb he hpl
theorem pe_dx {W : WX} (D : Dn X.prog X.w X.K X.mg X.base (L2.CX X.prog X.w) k x ps sp) (hr : Room k X.A) (tk : Takes X W) (ha : PA X (e :: es) t) (hg : Gl X x := by rfl) (hdb : (x == ("__debug__" : Str)) = false := by decide)
    (he : starEach (e :: es) X.env = (false, eval e X.env) :: starEach es X.env := by rfl) (hpl : (backTo pos (starEach es X.env)).any (·.1) = false := by rfl) : PE X (.Call (.Name x p) (e :: es) [] pos) (tCallS sp (WE W) t) := by
  obtain ⟨f, fd, m, kp, b, F⟩ := D
  exact pe_callS F hr hg m kp b (fun σ => passAt tk σ) ha hdb he hpl
/-- o.m(e, ..), which may raise -/
def tMethE (C : Addr) (m : Str) (sp : Sp) (E : L2.St → XK) (ta : TE) (t : TA) : TE := fun σ H Q => ta σ H fun x H1 => ∃ a dx fs, x = .ref a ∧ H1 a = some (.ins C dx fs) ∧ fs.lookup m = none ∧ t σ H1 fun vs H2 => sp (x :: vs) H2 Q (E σ)
theorem pe_mx {W : WX} {pl : Sem Bool} (c : Cls X.K C) (D : Mn X.prog X.w X.K X.mg X.base (L2.CX X.prog X.w) k C m ps sp) (hr : Room k X.A) (tk : Takes X W) (ho : PE X o ta) (ha : PA X (e :: es) t)
    (hst : starEach (e :: es) X.env = (false, eval e X.env) :: starEach es X.env := by rfl) (hpl : (backTo pos (starEach es X.env)).any (·.1) = false := by rfl)
    (ht : eval (.Call (.Attribute o m apos) (e :: es) [] pos) X.env = (do
      let ov ← eval o X.env
      standAt apos.atName
      let (f, first) ← holding [ov] (getMethod ov m pl)
      callWith pos f first (backTo pos (starEach (e :: es) X.env)) (backToKw pos (keywordEach [] X.env))) := by rfl) :
    PE X (.Call (.Attribute o m apos) (e :: es) [] pos) (tMethE C m sp (WE W) ta t) := by
  obtain ⟨f, fd, hm, b, F⟩ := D
  refine ⟨fun pins s σ H Q I h => PySem.W.methodCall_KW (pl := pl) (thn (ho.run pins s σ H _ I h) fun u s1 hh => ?_) ht⟩
  obtain ⟨x, H1, I1, rx, a, dx, fs, ex, ea, l, q⟩ := hh
  subst ex
  obtain rfl : u = Value.ref a := rx
  refine getmeth_ok I1 ea c hm l (PySem.W.callWith_K (first := [.ref a]) (h₀ := X.base) I.ok.mod.kin hm.kp (thn (ha.run pos pins s1 σ H1 _ I1 q) fun us s2 hh2 => ?_) hst hpl)
  obtain ⟨vs, H2, I2, r, q2⟩ := hh2
  exact ⟨I2.kIn, run_fnS (us := .ref a :: us) (vs := .ref a :: vs) F hr b (passAt tk σ) I2 (.cons rfl r) q2⟩
theorem pe_mx0 {W : WX} {pl : Sem Bool} (c : Cls X.K C) (D : Mn X.prog X.w X.K X.mg X.base (L2.CX X.prog X.w) k C m ps sp) (hr : Room k X.A) (tk : Takes X W) (ho : PE X o ta)
    (ht : eval (.Call (.Attribute o m apos) [] [] pos) X.env = (do
      let ov ← eval o X.env
      standAt apos.atName
      let (f, first) ← holding [ov] (getMethod ov m pl)
      callWith pos f first (backTo pos (starEach [] X.env)) (backToKw pos (keywordEach [] X.env))) := by rfl) :
    PE X (.Call (.Attribute o m apos) [] [] pos) (tMethE C m sp (WE W) ta tNil) := by
  obtain ⟨f, fd, hm, b, F⟩ := D
  refine ⟨fun pins s σ H Q I h => PySem.W.methodCall_KW (pl := pl) (thn (ho.run pins s σ H _ I h) fun u s1 hh => ?_) ht⟩
  obtain ⟨x, H1, I1, rx, a, dx, fs, ex, ea, l, q⟩ := hh
  subst ex
  obtain rfl : u = Value.ref a := rx
  exact getmeth_ok I1 ea c hm l (PySem.W.callWith_K0 (first := [.ref a]) I1.kIn hm.kp (run_fnS (us := [.ref a]) (vs := [.ref a]) F hr b (passAt tk σ) I1 (.cons rfl .nil) q))
theorem pe_md0 {pl : Sem Bool} (c : Cls X.K C) (D : Mn X.prog X.w X.K X.mg X.base CX0 k C m ps sp) (hr : Room k X.A) (ho : PE X o ta)
    (ht : eval (.Call (.Attribute o m apos) [] [] pos) X.env = (do
      let ov ← eval o X.env
      standAt apos.atName
      let (f, first) ← holding [ov] (getMethod ov m pl)
      callWith pos f first (backTo pos (starEach [] X.env)) (backToKw pos (keywordEach [] X.env))) := by rfl) :
    PE X (.Call (.Attribute o m apos) [] [] pos) (tMeth C m sp [] E0 ta tNil) := by
  obtain ⟨f, fd, hm, b, F⟩ := D
  exact pe_meth0 ho c hm F hr b .nil pass0 ht
end
/-! ### where things stand -/
structure Ad where
  (ct cw fi cc cd p1 p2 p3 : Addr)
/-- a def whose code object's table grows -/
def Dc (K : Frag) (mg : Str → Option Value) (base : Heap) (x : Str) (st : Stmt) (P : Addr) : Prop :=
  ∃ (f c : Addr) (oc : Value) (od : Option Addr) (kV doc pm : Value) (an : Option Addr) (ct : Value) (osl : Array (Option Value)), mg x = some (.ref f) ∧ PySem.W.keepIn K (.ref f) = true ∧
    K.lookup f = some ⟨oc, od, .func (PySem.W.fnOf x x (defArgs st) (defBody st) (defScope st) .none kV doc pm an (.ref c) ct), osl⟩ ∧ PySem.W.codeIn K (.ref c) x = true ∧ TabB base mg c P
/-- built-in names that no one has stored -/
def blNames : List Str := ["super", "len", "all", "int", "str", "sum", "ord", "enumerate", "range", "tuple", "list", "abs", "repr"]
structure TT (a : Ad) (K : Frag) (mg : Str → Option Value) (base : Heap) : Prop where
  te : TeTxt K a.ct a.fi a.cc a.cd
  gTE : mg "TextError" = some (.ref a.ct)
  bl : ∀ x ∈ blNames, mg x = none
  cW : Cls K a.cw
  gW : mg "Words" = some (.ref a.cw)
  mkW : PySem.W.makesIn K a.cw = true
  kpW : PySem.W.keepIn K (.ref a.cw) = true
  nW : NoAttr K a.cw "_words"
  nA : NoAttr K a.cw "_at"
  iLN : ∃ t, mg "LONGEST_NAME" = some (.int 5 t)
  iMD : ∃ t, mg "MOST_DIGITS" = some (.int 9 t)
  iMO : ∃ t, mg "MODULUS" = some (.int 9973 t)
  sCA : ∃ t, mg "CAPITALS" = some (.str "ABCDEFGHIJKLMNOPQRSTUVWXYZ" t)
  sNC : ∃ t, mg "NAME_CHARACTERS" = some (.str "ABCDEFGHIJKLMNOPQRSTUVWXYZ0123456789" t)
  sDI : ∃ t, mg "DIGITS" = some (.str "0123456789" t)
  sEP : ∃ t, mg "END_OF_PART" = some (.str "/" t)
  sBE : ∃ t, mg "BETWEEN" = some (.str " / " t)
  cName : Dc K mg base "is_name" s_is_name a.p1
  cNum : Dc K mg base "is_number" s_is_number a.p2
  cSum : Dc K mg base "text_sum" s_text_sum a.p3
section
variable {a : Ad} {K : Frag} {mg : Str → Option Value} {base : Heap}
theorem TT.no (T : TT a K mg base) (x : Str) (h : blNames.contains x = true := by decide +kernel) : mg x = none := T.bl x (by simpa using h)
end
def Tb (a : Ad) (H : Hp) : Prop := TabG H a.p1 ∧ TabG H a.p2 ∧ TabG H a.p3
theorem Ext.tb {M : Addr → Prop} {a : Ad} {H H' : Hp} (x : Ext M H H') (t : Tb a H) : Tb a H' := ⟨x.tab _ t.1, x.tab _ t.2.1, x.tab _ t.2.2⟩
section
variable {X : Cx}
theorem pe_gi {x : Str} {i : Int} {t : Tok} {pos : Pos} (m : X.mg x = some (.int i t)) (hg : Gl X x := by rfl) (hd : (x == ("__debug__" : Str)) = false := by decide) : PE X (.Name x pos) (tC (.int i)) := pe_glob hg m (v := .int i) ⟨_, rfl⟩ hd
theorem pe_gs {x : Str} {i : Str} {t : Tok} {pos : Pos} (m : X.mg x = some (.str i t)) (hg : Gl X x := by rfl) (hd : (x == ("__debug__" : Str)) = false := by decide) : PE X (.Name x pos) (tC (.str i)) := pe_glob hg m (v := .str i) ⟨_, rfl⟩ hd
theorem pe_gr {x : Str} {p : Addr} {pos : Pos} (m : X.mg x = some (.ref p)) (hg : Gl X x := by rfl) (hd : (x == ("__debug__" : Str)) = false := by decide) : PE X (.Name x pos) (tC (.ref p)) := pe_glob hg m (v := .ref p) rfl hd
end
theorem genS_of {env : Env} {scope : Scope} {x : Str} (kd : scope.kind = .function) (co : scope.isCoroutine = false) (h : ∀ y ∈ scope.names, y.2 ≠ .cell ∧ y.2 ≠ .free) (d : scope.names.lookup (".0" : Str) = some NameKind.local) (l : scope.names.lookup x = some .local) : GenS env scope x :=
  ⟨kd, co, fun y hy => (h y hy).1, d, l, fun y hy e => absurd e (h y hy).2⟩
theorem if_t {c : Bool} {A B : Prop} (hc : c = true) (h : A) : if c = true then A else B := by
  rw [if_pos hc]
  exact h
theorem if_f {c : Bool} {A B : Prop} (hc : c = false) (h : B) : if c = true then A else B := by
  rw [hc, if_neg Bool.false_ne_true]
  exact h
end K31
/-! K31, defs 1: is_name, is_number, text_sum. -/
namespace K31
open PySem PySem.Spec PyProof.Rows L2 GxR
open PySem.W (Frag)
section
variable {w : World} {K : Frag} {mg : Str → Option Value} {base : Heap} {x : Str} {st : Stmt} {P : Addr} {N ps : List Str} {sp : Sp} {k : Nat}
theorem Dc.dn (D : Dc K mg base x st P) (b : BindP x x st ps) (S : FnScope N ps (defScope st)) (len : ∀ vs H Q E, sp vs H Q E → vs.length = ps.length)
    (h : ∀ (f c : Addr), TabB base mg c P → ∀ (A : Around) (outer : List Env) (s : Shared) (H : Hp) (vs : List V) (Q : VK) (E : XK), Room k (A.deeper (envOfC x (defScope st) s.heap.objs.size f (.ref c))) → sp vs H Q E →
      ∃ t, PSs (cxOf CX0 Pg w K mg base N x (defScope st) f (.ref c) A outer s H E).nox (defBody st) t ∧ t { nx := fun _ H' => Q .non H', rt := Q } (start N vs) H) : Dn Pg w K mg base CX0 (k + 1) x ps sp := by
  obtain ⟨f, c, oc, od, kV, doc, pm, an, ct, osl, m, kp, lk, cd, TB⟩ := D
  refine ⟨f, _, m, kp, .all (b kV doc pm an (.ref c) ct), fn_of lk cd S len fun A outer s H vs Q E hr hsp => ?_⟩
  obtain ⟨t, h1, h2⟩ := h f c TB A outer s H vs Q E hr hsp
  exact ⟨t, h1.nox, h2⟩
end
/-! ### signs of names and numbers -/
theorem caps_mem {c : Nat} (h : Cap c) : c ∈ ("ABCDEFGHIJKLMNOPQRSTUVWXYZ" : Str).cps.toList := by
  have e : ("ABCDEFGHIJKLMNOPQRSTUVWXYZ" : Str).cps.toList = List.range' 65 26 := by decide +kernel
  rw [e, List.mem_range'_1]
  unfold Cap at h
  omega
theorem digs_mem {c : Nat} (h : Dig c) : c ∈ ("0123456789" : Str).cps.toList := by
  have e : ("0123456789" : Str).cps.toList = List.range' 48 10 := by decide +kernel
  rw [e, List.mem_range'_1]
  unfold Dig at h
  omega
theorem nchs_mem {c : Nat} (h : Cap c ∨ Dig c) : c ∈ ("ABCDEFGHIJKLMNOPQRSTUVWXYZ0123456789" : Str).cps.toList := by
  have e : ("ABCDEFGHIJKLMNOPQRSTUVWXYZ0123456789" : Str).cps.toList = List.range' 65 26 ++ List.range' 48 10 := by decide +kernel
  rw [e, List.mem_append, List.mem_range'_1, List.mem_range'_1]
  unfold Cap Dig at h
  omega
theorem szl {n : Nat} (h : n ≤ 1000000) : n ≤ sizeLine := Nat.le_trans h (by decide)
theorem tl_cps (x : Str) : TL.tl x = x.cps.toList := rfl
/-! ### is_name -/
def spName (P : Addr) : Sp := fun vs H Q _ => ∃ x, vs = [.str x] ∧ TabG H P ∧ ((OkName x ∧ ∀ H', X0 H H' → Q (.bl true) H') ∨ (x = Str.empty ∧ ∀ H', X0 H H' → Q (.bl false) H'))
section
variable {a : Ad} {w : World} {K : Frag} {mg : Str → Option Value} {base : Heap}
theorem ok_is_name (T : TT a K mg base) : Dn Pg w K mg base CX0 4 "is_name" ["thing"] (spName a.p1) := by
  refine Dc.dn (k := 3) T.cName (fun _ _ _ _ _ _ us hl => match us, hl with | [_], _ => rfl) sc_is_name ?_ fun f c TB A outer s H vs Q E hr h => ?_
  · rintro vs H Q E ⟨x, rfl, _⟩
    rfl
  obtain ⟨t5, g5⟩ := T.iLN
  obtain ⟨tc, gc⟩ := T.sCA
  obtain ⟨tn, gn⟩ := T.sNC
  refine ⟨_, pss_cons (ps_if (PW.pt (pw_or (pt_not (pt_chain op_le op_le pe_int (pe_callB call_len_str (by rfl) (T.no "len") PySem.boot_len (pa_cons (pv 0) pa_nil)) (pe_gi g5)))
      (pw_or1 (pt_cmpR op_notIn_sign (pe_ix ix_str (pv 0) pe_int (fun _ _ => rfl)) (pe_gs gc) rfl))))
      (pss_one (ps_ret pe_bl)) pss_nil)
    (pss_one (ps_ret (pe_allG (pb := fun c => decide (c ∈ ("ABCDEFGHIJKLMNOPQRSTUVWXYZ0123456789" : Str).cps.toList)) hr (by rfl) (T.no "all") TB rfl (genS_of rfl rfl (by decide +kernel) rfl rfl) (pv 0) (elt_in rfl rfl rfl gn) (fun _ => rfl)))), ?_⟩
  obtain ⟨x, rfl, ht, h | h⟩ := h
  · obtain ⟨hx, k⟩ := h
    have l := name_len hx
    obtain ⟨c, r, e, hc, _, hr⟩ := hx
    refine ⟨_, rfl, _, rfl, szl (by omega), _, _, rfl, rfl, _, rfl, ?_⟩
    refine if_t (decide_eq_true (by omega)) ⟨_, _, rfl, rfl, _, rfl, ?_⟩
    rw [show decide ((x.length : Int) ≤ 5) = true from decide_eq_true (by omega)]
    refine if_f rfl ?_
    refine ⟨_, rfl, _, _, c, rfl, rfl, szl (by omega), ?_, _, _, rfl, rfl, _, rfl, ?_⟩
    · show atI x.cps.toList 0 = some c
      rw [← tl_cps, e]
      exact atI_nat (j := 0) (by rfl)
    · rw [show decide (c ∈ ("ABCDEFGHIJKLMNOPQRSTUVWXYZ" : Str).cps.toList) = true from decide_eq_true (caps_mem hc)]
      refine if_f rfl ?_
      refine ⟨_, rfl, x, rfl, ht, fun H2 tb => ?_⟩
      rw [show (x.cps.toList.all fun c => decide (c ∈ ("ABCDEFGHIJKLMNOPQRSTUVWXYZ0123456789" : Str).cps.toList)) = true from ?_]
      · exact k H2 (Ext.tabbed ht tb)
      · rw [← tl_cps, e, List.all_eq_true]
        intro d hd
        rcases List.mem_cons.mp hd with z | z
        · rw [z]
          exact decide_eq_true (nchs_mem (.inl hc))
        · exact decide_eq_true (nchs_mem (hr d z))
  · obtain ⟨rfl, k⟩ := h
    refine ⟨_, rfl, _, rfl, (by decide), _, _, rfl, rfl, _, rfl, ?_⟩
    refine if_f rfl ?_
    exact ⟨_, rfl, if_t rfl (k H (Ext.refl _ _))⟩
end
/-! ### is_number -/
def spNum (P : Addr) : Sp := fun vs H Q _ => ∃ x, vs = [.str x] ∧ TabG H P ∧ (((∃ n, OkNum n ∧ x = sI n) ∧ ∀ H', X0 H H' → Q (.bl true) H') ∨ (x = Str.empty ∧ ∀ H', X0 H H' → Q (.bl false) H'))
theorem sI_zero : sI 0 = "0" := by decide +kernel
section
variable {a : Ad} {w : World} {K : Frag} {mg : Str → Option Value} {base : Heap}
theorem ok_is_number (T : TT a K mg base) : Dn Pg w K mg base CX0 4 "is_number" ["word"] (spNum a.p2) := by
  refine Dc.dn (k := 3) T.cNum (fun _ _ _ _ _ _ us hl => match us, hl with | [_], _ => rfl) sc_is_number ?_ fun f c TB A outer s H vs Q E hr h => ?_
  · rintro vs H Q E ⟨x, rfl, _⟩
    rfl
  obtain ⟨t9, g9⟩ := T.iMD
  obtain ⟨td, gd⟩ := T.sDI
  refine ⟨_, pss_cons (ps_if (PW.pt (pw_or (pt_not (pt_chain op_le op_le pe_int (pe_callB call_len_str (by rfl) (T.no "len") PySem.boot_len (pa_cons (pv 0) pa_nil)) (pe_gi g9)))
      (pw_or1 (pt_not (pt_val (pe_allG (pb := fun c => decide (c ∈ ("0123456789" : Str).cps.toList)) hr (by rfl) (T.no "all") TB rfl (genS_of rfl rfl (by decide +kernel) rfl rfl) (pv 0) (elt_in rfl rfl rfl gd) (fun _ => rfl)))))))
      (pss_one (ps_ret pe_bl)) pss_nil)
    (pss_one (ps_ret (pe_or (pe_cmpR op_eq (pv 0) pe_str (nomark _)) (pe_one (pe_cmpR op_ne (pe_ix ix_str (pv 0) pe_int (fun _ _ => rfl)) pe_str (nomark _)))))), ?_⟩
  obtain ⟨x, rfl, ht, ⟨⟨n, hn, rfl⟩, k⟩ | ⟨rfl, k⟩⟩ := h
  · have l := num_len hn
    obtain ⟨h0, h1⟩ := hn
    obtain ⟨m, rfl⟩ := num_nat h0
    have e : (sI (m : Int)).cps.toList = TL.numL m := sI_nat m
    refine ⟨_, rfl, _, rfl, szl (by omega), _, _, rfl, rfl, _, rfl, ?_⟩
    refine if_t (decide_eq_true (by omega)) ⟨_, _, rfl, rfl, _, rfl, ?_⟩
    rw [show decide (((sI (m : Int)).length : Int) ≤ 9) = true from decide_eq_true (by omega)]
    refine if_f rfl ?_
    refine ⟨_, rfl, _, rfl, ht, fun H2 tb => ?_⟩
    rw [show ((sI (m : Int)).cps.toList.all fun c => decide (c ∈ ("0123456789" : Str).cps.toList)) = true from ?_]
    · refine ⟨_, rfl, if_f rfl ?_⟩
      have fin := k H2 (Ext.tabbed ht tb)
      refine ⟨_, rfl, rfl, _, rfl, ?_⟩
      by_cases z : V.str (sI (m : Int)) = V.str "0"
      · rw [show decide (V.str (sI (m : Int)) = V.str "0") = true from decide_eq_true z]
        exact fin
      · rw [show decide (V.str (sI (m : Int)) = V.str "0") = false from decide_eq_false z]
        obtain ⟨c, r, en, hc⟩ := numL_head m
        refine ⟨_, rfl, _, _, c, rfl, rfl, szl (by omega), ?_, rfl, ?_⟩
        · show atI (sI (m : Int)).cps.toList 0 = some c
          rw [e, en]
          exact atI_nat (j := 0) (by rfl)
        · have q : ¬ V.str ⟨#[c]⟩ = V.str "0" := fun q => z (by
            have q2 : (⟨#[c]⟩ : Str) = "0" := V.str.inj q
            have q3 : TL.tl ⟨#[c]⟩ = TL.tl "0" := congrArg TL.tl q2
            have q4 : TL.tl ("0" : Str) = [48] := by decide +kernel
            rw [q4] at q3
            have q5 : c = 48 := by
              have : [c] = [48] := q3
              simpa using this
            rw [hc q5, ← sI_zero]
            rfl)
          rw [show (!decide (V.str ⟨#[c]⟩ = V.str "0")) = true from by rw [decide_eq_false q] <;> rfl]
          exact fin
    · rw [e, List.all_eq_true]
      exact fun d hd => decide_eq_true (digs_mem (numL_sg hd))
  · refine ⟨_, rfl, _, rfl, (by decide), _, _, rfl, rfl, _, rfl, ?_⟩
    refine if_f rfl ?_
    exact ⟨_, rfl, if_t rfl (k H (Ext.refl _ _))⟩
end
/-! ### text_sum -/
def plW (i c : Nat) : Int := ((i : Int) + 1) * ((c : Nat) : Int)
theorem pre_sum (l : List Nat) : ∀ j, j ≤ l.length → preSum (plVal plW l) j = ((tsumL 0 (l.take j) : Nat) : Int)
  | 0, _ => rfl
  | j + 1, h => by
    have hj : j < l.length := h
    have e : l.take (j + 1) = l.take j ++ [l[j]] := by rw [List.take_add_one, List.getElem?_eq_getElem hj] <;> rfl
    have ih := pre_sum l j (by omega)
    show preSum (plVal plW l) j + plVal plW l j = _
    rw [ih, e, tsumL_app, List.length_take, Nat.min_eq_left (by omega), plVal_some (List.getElem?_eq_getElem hj)]
    show _ = ((tsumL 0 (l.take j) + ((0 + j + 1) * l[j] + 0) : Nat) : Int)
    unfold plW
    push_cast
    rw [Int.zero_add, Int.add_zero]
def spTsum (P : Addr) : Sp := fun vs H Q _ => ∃ x, vs = [.str x] ∧ x.length ≤ 1000000 ∧ TabG H P ∧ ∀ H', X0 H H' → Q (.int (tsum x)) H'
section
variable {a : Ad} {w : World} {K : Frag} {mg : Str → Option Value} {base : Heap}
theorem ok_text_sum (T : TT a K mg base) : Dn Pg w K mg base CX0 4 "text_sum" ["text"] (spTsum a.p3) := by
  refine Dc.dn (k := 3) T.cSum (fun _ _ _ _ _ _ us hl => match us, hl with | [_], _ => rfl) sc_text_sum ?_ fun f c TB A outer s H vs Q E hr h => ?_
  · rintro vs H Q E ⟨x, rfl, _⟩
    rfl
  obtain ⟨tm, gm⟩ := T.iMO
  refine ⟨_, pss_one (ps_ret (pe_op op_mod (pe_sumG (val := plW) (N := 1000000) hr TB rfl (genS_of rfl rfl (by decide +kernel) rfl rfl) rfl (by decide +kernel) (by rfl) (T.no "enumerate") (by rfl) (T.no "sum") (pv 0) (elt_place rfl rfl rfl rfl (T.no "ord") (by decide)) (fun _ => rfl)) (pe_gi gm))), ?_⟩
  obtain ⟨x, rfl, hl, ht, k⟩ := h
  refine ⟨_, rfl, x, rfl, hl, ht, fun H2 tb => ⟨_, _, rfl, rfl, (by show (0 : Int) < 9973; decide), ?_⟩⟩
  have e : preSum (plVal plW x.cps.toList) x.cps.size = ((tsumL 0 (TL.tl x) : Nat) : Int) := by
    have q := pre_sum x.cps.toList x.cps.toList.length (Nat.le_refl _)
    rw [List.take_length] at q
    exact q
  rw [e]
  exact k H2 (Ext.tabbed ht tb)
end
end K31
/-! K31, defs 2: is_signed, the methods of Words. -/
namespace K31
open PySem PySem.Spec PyProof.Rows L2 GxR
open PySem.W (Frag)
open TL (tl)
theorem sixA {n k d : Nat} (h : k ≤ n) : HT.sIx n d (some (k : Int)) = k := by
  rw [HT.sIx_nat]
  exact Nat.min_eq_left h
/-- a text from its k-th sign on -/
theorem cut_from {z : Str} {k : Nat} (h : k ≤ z.length) : tl (cutS z (some (k : Int)) none) = (tl z).drop k := by
  show (((tl z).drop (HT.sIx z.length 0 (some (k : Int)))).take (HT.sIx z.length z.length none - HT.sIx z.length 0 (some (k : Int)))) = _
  rw [sixA h, HT.sIx_none, List.take_of_length_le]
  rw [List.length_drop, ← TL.len_tl]
  exact Nat.le_refl _
/-- the first k signs -/
theorem cut_upto {z : Str} {k : Nat} (h : k ≤ z.length) : tl (cutS z none (some (k : Int))) = (tl z).take k := by
  show (((tl z).drop (HT.sIx z.length 0 none)).take (HT.sIx z.length z.length (some (k : Int)) - HT.sIx z.length 0 none)) = _
  rw [sixA h, HT.sIx_none, List.drop_zero, Nat.sub_zero]
theorem starts_minus (x : Str) : Txt.startswith x "-" = ((tl x).take 1 == [45]) := by
  unfold Txt.startswith
  rw [PySem.StrLaws.subAt_eq, List.drop_zero, show ("-" : Str).length = 1 from by decide +kernel, show ("-" : Str).cps.toList = [45] from by decide +kernel, TL.len_tl x]
  show (decide (1 ≤ (tl x).length) && ((tl x).take 1 == [45])) = _
  cases tl x with
  | nil => rfl
  | cons c r =>
    rw [decide_eq_true (by rw [List.length_cons]; omega)]
    rfl
/-! ### is_signed -/
def spSgn (P : Addr) : Sp := fun vs H Q _ => ∃ x, vs = [.str x] ∧ TabG H P ∧ (((∃ n, OkInt n ∧ x = sI n) ∧ ∀ H', X0 H H' → Q (.bl true) H') ∨ (x = Str.empty ∧ ∀ H', X0 H H' → Q (.bl false) H'))
section
variable {a : Ad} {w : World} {K : Frag} {mg : Str → Option Value} {base : Heap}
theorem ok_is_signed (T : TT a K mg base) (D : Df K mg "is_signed" s_is_signed) : Dn Pg w K mg base CX0 5 "is_signed" ["word"] (spSgn a.p2) := by
  refine D.dn (fun _ _ _ _ _ _ us hl => match us, hl with | [_], _ => rfl) fun f fd F => ?_
  refine F.ok (k := 4) sc_is_signed ?_ fun cdv A outer s H vs Q E hr h => ?_
  · rintro vs H Q E ⟨x, rfl, _⟩
    rfl
  have N := ok_is_number (w := w) T
  refine ⟨_, pss_cons (ps_if (pt_val (pe_m1 PySem.F.slot_str_startswith PySem.F.type_str_startswith mt_startswith (pv 0) pe_str))
      (pss_one (ps_ret (pe_and (pe_df N hr (pa_cons (pe_slice sl_str (pv 0) (po_some pe_int) po_none) pa_nil)) (pe_one (pe_cmpR op_ne (pv 0) pe_str (nomark _)))))) pss_nil)
    (pss_one (ps_ret (pe_df N hr (pa_cons (pv 0) pa_nil)))), ?_⟩
  obtain ⟨x, rfl, ht, ⟨⟨n, hn, rfl⟩, k⟩ | ⟨rfl, k⟩⟩ := h
  · rcases int_two hn with h0 | ⟨m, h0, h1, rfl⟩
    · obtain ⟨m, rfl⟩ := num_nat h0.1
      obtain ⟨c, r, e, _⟩ := numL_head m
      have d : Dig c := numL_sg (n := m) (by rw [e]; exact List.mem_cons_self ..)
      refine ⟨_, rfl, ⟨_, rfl⟩, _, _, rfl, rfl, _, rfl, ?_⟩
      rw [starts_minus, sI_nat, e]
      refine if_f ?_ ⟨_, rfl, _, rfl, ht, .inl ⟨⟨_, h0, rfl⟩, fun H' x0 => k H' x0⟩⟩
      show ([c] == [45]) = false
      have : c ≠ 45 := by
        unfold Dig at d
        omega
      simpa using this
    · have e := sI_neg h0
      refine ⟨_, rfl, ⟨_, rfl⟩, _, _, rfl, rfl, _, rfl, ?_⟩
      rw [starts_minus, e]
      refine if_t rfl ?_
      have l1 : 1 ≤ (sI (-(m : Int))).length := by
        rw [TL.len_tl, e, List.length_cons]
        omega
      have l2 := neg_len h0 h1
      have ec : cutS (sI (-(m : Int))) (some 1) none = sI (m : Int) := TL.ext_tl (by
        refine (cut_from (k := 1) l1).trans ?_
        rw [e, sI_nat]
        rfl)
      refine ⟨_, rfl, _, rfl, _, rfl, szl (by omega), _, rfl, ht, .inl ⟨⟨_, ⟨by omega, by omega⟩, ec⟩, fun H' x0 => ⟨_, rfl, _, rfl, rfl, ?_⟩⟩⟩
      rw [show (!decide (V.str (sI (-(m : Int))) = V.str "-0")) = true from ?_]
      · exact k H' x0
      · have q : ¬ V.str (sI (-(m : Int))) = V.str "-0" := fun q => by
          have q2 := congrArg tl (V.str.inj q)
          rw [e, show tl ("-0" : Str) = 45 :: TL.numL 0 from by decide +kernel] at q2
          have q3 := TL.numL_inj (List.cons.inj q2).2
          omega
        rw [decide_eq_false q]
        rfl
  · refine ⟨_, rfl, ⟨_, rfl⟩, _, _, rfl, rfl, _, rfl, ?_⟩
    refine if_f (by decide +kernel) ⟨_, rfl, _, rfl, ht, .inr ⟨rfl, fun H' x0 => k H' x0⟩⟩
end
/-! ### the object Words -/
theorem Ext.put1 {H : Hp} {p : Addr} {o : HO} {cw dx : Addr} {fs : List (Str × V)} (h : H p = some (.ins cw dx fs)) : X1 p H (upd H p o) := Ext.put (M := fun b => b = p) h (fun _ z => by cases z) rfl
def wF (wl : Addr) (k : Nat) : List (Str × V) := [("_words", .ref wl), ("_at", .int (k : Int))]
/-- at p: the words ws are still to come -/
def Wd (cw : Addr) (H : Hp) (p wl : Addr) (ws : List Str) : Prop := ∃ (dx : Addr) (all : List Str) (k : Nat), H p = some (.ins cw dx (wF wl k)) ∧ H wl = some (.lst (all.map V.str)) ∧ all.drop k = ws ∧ k ≤ all.length ∧ all.length ≤ 1000
theorem wF_words (wl : Addr) (k : Nat) : (wF wl k).lookup ("_words" : Str) = some (.ref wl) := rfl
theorem wF_at (wl : Addr) (k : Nat) : (wF wl k).lookup ("_at" : Str) = some (.int (k : Int)) := by
  show (match (("_at" : Str) == ("_words" : Str)) with | true => some (V.ref wl) | false => List.lookup ("_at" : Str) [(("_at" : Str), V.int (k : Int))]) = _
  rw [show (("_at" : Str) == ("_words" : Str)) = false from by decide +kernel]
  rfl
theorem wF_put (wl : Addr) (k j : Nat) : putF "_at" (.int (j : Int)) (wF wl k) = wF wl j := by
  show (if ("_words" : Str) = "_at" then _ else _) = _
  rw [if_neg (by decide +kernel)]
  rfl
theorem wF_new (wl : Addr) : putF "_at" (.int 0) (putF "_words" (.ref wl) []) = wF wl 0 := by
  show (if ("_words" : Str) = "_at" then _ else _) = _
  rw [if_neg (by decide +kernel)]
  rfl
theorem wF_no {m : Str} (wl : Addr) (k : Nat) (h1 : (m == ("_words" : Str)) = false := by decide +kernel) (h2 : (m == ("_at" : Str)) = false := by decide +kernel) : (wF wl k).lookup m = none := by
  unfold wF
  simp only [List.lookup, h1, h2]
theorem wd_x0 {cw p wl : Addr} {H H' : Hp} {ws : List Str} (h : Wd cw H p wl ws) (x : X0 H H') : Wd cw H' p wl ws := by
  obtain ⟨dx, all, k, h1, h2, h3⟩ := h
  exact ⟨dx, all, k, x.keep _ _ h1 id (fun _ z => by cases z), x.keep _ _ h2 id (fun _ z => by cases z), h3⟩
/-- the object at p is an instance, no list -/
theorem wd_ns {cw p wl : Addr} {H : Hp} {ws : List Str} (h : Wd cw H p wl ws) : NS (fun b => b = p) H := by
  obtain ⟨dx, all, k, h1, _⟩ := h
  exact ns1 h1
theorem drop_get {α : Type} {l r : List α} {k : Nat} {x : α} (h : l.drop k = x :: r) : l[k]? = some x ∧ l.drop (k + 1) = r ∧ k < l.length := by
  have e : (l.drop k)[0]? = some x := by
    rw [h]
    rfl
  have e2 : l[k]? = some x := by
    rw [List.getElem?_drop] at e
    exact e
  refine ⟨e2, ?_, ?_⟩
  · rw [← List.drop_drop, h]
    rfl
  · exact (List.getElem?_eq_some_iff.mp e2).1
def spWInit (cw : Addr) : Sp := fun vs H Q _ => ∃ (p dx : Addr) (x : Str), vs = [.ref p, .str x] ∧ H p = some (.ins cw dx []) ∧ x.length ≤ 1000000 ∧ (Txt.split x bk).length ≤ 1000 ∧ ∀ wl H', X1 p H H' → Wd cw H' p wl (Txt.split x bk) → Q .non H'
def spLeft (cw : Addr) : Sp := fun vs H Q _ => ∃ (p wl : Addr) (ws : List Str), vs = [.ref p] ∧ Wd cw H p wl ws ∧ Q (.int (ws.length : Int)) H
def spComing (cw : Addr) : Sp := fun vs H Q _ => ∃ (p wl : Addr) (w : Str) (ws : List Str), vs = [.ref p] ∧ Wd cw H p wl (w :: ws) ∧ Q (.str w) H
def spNext (cw : Addr) : Sp := fun vs H Q _ => ∃ (p wl : Addr) (w : Str) (ws : List Str), vs = [.ref p] ∧ Wd cw H p wl (w :: ws) ∧ ∀ H', X1 p H H' → Wd cw H' p wl ws → Q (.str w) H'
section
variable {a : Ad} {w : World} {K : Frag} {mg : Str → Option Value} {base : Heap}
theorem ok_winit (T : TT a K mg base) (D : Mf K a.cw "__init__" "Words.__init__" s_Words_init) : Mn Pg w K mg base CX0 2 a.cw "__init__" ["self", "text"] (spWInit a.cw) := by
  refine D.mn (fun _ _ _ _ _ _ us hl => match us, hl with | [_, _], _ => rfl) fun f fd F => ?_
  refine F.ok (k := 1) sc_Words_init ?_ fun cdv A outer s H vs Q E hr h => ?_
  · rintro vs H Q E ⟨p, dx, x, rfl, _⟩
    rfl
  refine ⟨_, pss_cons (ps_fld (pv 0) (pe_split (pv 1) pe_str) rfl) (pss_one (ps_fld (pv 0) pe_int rfl)), ?_⟩
  obtain ⟨p, dx, x, rfl, hp, hx, hn, k⟩ := h
  refine ⟨_, rfl, ⟨_, rfl⟩, _, bk, rfl, rfl, (by decide +kernel), (by rw [sizeLine_eq]; omega), fun l nl => ?_⟩
  have lp := ne_of_none hp nl
  have hp1 : upd H l (.lst ((Txt.split x bk).map V.str)) p = some (.ins a.cw dx []) := by
    rw [upd_ne lp]
    exact hp
  refine ⟨_, rfl, p, a.cw, dx, _, rfl, hp1, T.cW, T.nW, (by show 0 < 1000; decide), ?_⟩
  refine ⟨_, rfl, p, a.cw, dx, _, rfl, upd_same, T.cW, T.nA, (by show 1 < 1000; decide), ?_⟩
  refine k l _ (((Ext.new nl : X1 p _ _).trans (Ext.put1 hp1)).trans (Ext.put1 upd_same)) ⟨dx, _, 0, upd_same.trans (congrArg (fun q => some (HO.ins a.cw dx q)) (wF_new l)), ?_, rfl, Nat.zero_le _, hn⟩
  rw [upd_ne (Ne.symm lp), upd_ne (Ne.symm lp)]
  exact upd_same
theorem ok_left (T : TT a K mg base) (D : Mf K a.cw "left" "Words.left" s_Words_left) : Mn Pg w K mg base CX0 2 a.cw "left" ["self"] (spLeft a.cw) := by
  refine D.mn (fun _ _ _ _ _ _ us hl => match us, hl with | [_], _ => rfl) fun f fd F => ?_
  refine F.ok (k := 1) sc_Words_left ?_ fun cdv A outer s H vs Q E hr h => ?_
  · rintro vs H Q E ⟨p, wl, ws, rfl, _⟩
    rfl
  refine ⟨_, pss_one (ps_ret (pe_op op_sub (pe_callB call_len_seq (by rfl) (T.no "len") PySem.boot_len (pa_cons (pe_fld (pv 0) rfl) pa_nil)) (pe_fld (pv 0) rfl))), ?_⟩
  obtain ⟨p, wl, ws, rfl, ⟨dx, all, j, h1, h2, h3, h4, h5⟩, q⟩ := h
  refine ⟨_, rfl, p, a.cw, dx, _, _, rfl, h1, T.cW, T.nW, wF_words wl j, _, _, rfl, .inl (SqL.of h2), _, rfl, p, a.cw, dx, _, _, rfl, h1, T.cW, T.nA, wF_at wl j, _, _, rfl, rfl, ?_⟩
  show Q (.int (((all.map V.str).length : Int) - (j : Int))) H
  rw [show (((all.map V.str).length : Int) - (j : Int)) = (ws.length : Int) from ?_]
  · exact q
  · rw [← h3, List.length_drop, List.length_map]
    omega
theorem ok_coming (T : TT a K mg base) (D : Mf K a.cw "coming" "Words.coming" s_Words_coming) : Mn Pg w K mg base CX0 2 a.cw "coming" ["self"] (spComing a.cw) := by
  refine D.mn (fun _ _ _ _ _ _ us hl => match us, hl with | [_], _ => rfl) fun f fd F => ?_
  refine F.ok (k := 1) sc_Words_coming ?_ fun cdv A outer s H vs Q E hr h => ?_
  · rintro vs H Q E ⟨p, wl, w0, ws, rfl, _⟩
    rfl
  refine ⟨_, pss_one (ps_ret (pe_ix ix_list (pe_fld (pv 0) rfl) (pe_fld (pv 0) rfl) (fun _ _ => rfl))), ?_⟩
  obtain ⟨p, wl, w0, ws, rfl, ⟨dx, all, j, h1, h2, h3, h4, h5⟩, q⟩ := h
  refine ⟨_, rfl, p, a.cw, dx, _, _, rfl, h1, T.cW, T.nW, wF_words wl j, _, rfl, p, a.cw, dx, _, _, rfl, h1, T.cW, T.nA, wF_at wl j, wl, _, _, _, rfl, rfl, SqL.of h2, atI_nat (j := j) (v := .str w0) ?_, q⟩
  rw [List.getElem?_map, (drop_get h3).1]
  rfl
theorem ok_next (T : TT a K mg base) (D : Mf K a.cw "next_word" "Words.next_word" s_Words_next_word) : Mn Pg w K mg base CX0 2 a.cw "next_word" ["self"] (spNext a.cw) := by
  refine D.mn (fun _ _ _ _ _ _ us hl => match us, hl with | [_], _ => rfl) fun f fd F => ?_
  refine F.ok (k := 1) sc_Words_next_word ?_ fun cdv A outer s H vs Q E hr h => ?_
  · rintro vs H Q E ⟨p, wl, w0, ws, rfl, _⟩
    rfl
  refine ⟨_, pss_cons (ps_if (pt_cmpR op_eq (pe_fld (pv 0) rfl) (pe_callB call_len_seq (by rfl) (T.no "len") PySem.boot_len (pa_cons (pe_fld (pv 0) rfl) pa_nil)) (nomark _)) (pss_one ps_never) pss_nil)
    (pss_cons (ps_fldaug (pv 0) pe_int in_add)
    (pss_one (ps_ret (pe_ix ix_list (pe_fld (pv 0) rfl) (pe_op op_sub (pe_fld (pv 0) rfl) pe_int) (fun _ _ => rfl))))), ?_⟩
  obtain ⟨p, wl, w0, ws, rfl, ⟨dx, all, j, h1, h2, h3, h4, h5⟩, q⟩ := h
  obtain ⟨g1, g2, g3⟩ := drop_get h3
  refine ⟨_, rfl, p, a.cw, dx, _, _, rfl, h1, T.cW, T.nA, wF_at wl j, _, rfl, p, a.cw, dx, _, _, rfl, h1, T.cW, T.nW, wF_words wl j, wl, _, rfl, .inl (SqL.of h2), rfl, _, rfl, ?_⟩
  refine if_f (decide_eq_false fun z => ?_) ?_
  · have z2 := V.int.inj z
    rw [List.length_map] at z2
    omega
  refine ⟨_, rfl, p, a.cw, dx, _, _, rfl, h1, T.cW, T.nA, wF_at wl j, _, _, rfl, rfl, dx, _, h1, (by show 2 < 1000; decide), ?_⟩
  have lp : wl ≠ p := ne_of h2 h1 (by intro z; cases z)
  have e1 : (upd H p (.ins a.cw dx (putF "_at" (.int ((j : Int) + 1)) (wF wl j)))) p = some (.ins a.cw dx (wF wl (j + 1))) := upd_same.trans (congrArg (fun q => some (HO.ins a.cw dx q)) (wF_put wl j (j + 1)))
  have e2 : (upd H p (.ins a.cw dx (putF "_at" (.int ((j : Int) + 1)) (wF wl j)))) wl = some (.lst (all.map V.str)) := by
    rw [upd_ne lp]
    exact h2
  refine ⟨_, rfl, p, a.cw, dx, _, _, rfl, e1, T.cW, T.nW, wF_words wl (j + 1), _, rfl, p, a.cw, dx, _, _, rfl, e1, T.cW, T.nA, wF_at wl (j + 1), _, _, rfl, rfl, wl, _, _, .str w0, rfl, rfl, SqL.of e2, ?_, ?_⟩
  · rw [show (((j + 1 : Nat) : Int) - 1) = (j : Int) by omega]
    refine atI_nat (j := j) ?_
    rw [List.getElem?_map, g1]
    rfl
  · exact q _ (Ext.put1 h1) ⟨dx, all, j + 1, e1, e2, g2, g3, h5⟩
end
end K31
/-! K31, defs 3: the methods of Words that may raise. -/
namespace K31
open PySem PySem.Spec PyProof.Rows L2 GxR
open PySem.W (Frag)
open TL (tl)
theorem in_strs (w : Str) : ∀ xs : List Str, inV (.str w) (xs.map V.str) = decide (w ∈ xs)
  | [] => rfl
  | x :: xs => by
    show (eqV (.str x) (.str w) || inV (.str w) (xs.map V.str)) = _
    rw [in_strs w xs]
    have e : eqV (.str x) (.str w) = (x == w) := rfl
    rw [e, Bool.eq_iff_iff, Bool.or_eq_true, decide_eq_true_iff, decide_eq_true_iff, List.mem_cons, beq_iff_eq, eq_comm]
theorem flat_strs : ∀ xs : List Str, (xs.map V.str).all flatV = true
  | [] => rfl
  | x :: xs => by
    show (true && (xs.map V.str).all flatV) = true
    rw [flat_strs xs]
    rfl
/-- where a TextError may point -/
theorem at_ok {i : Int} (h : -1 ≤ i) (h2 : i ≤ 100000) : i.natAbs.log2 < 1920 ∧ (sI i).length ≤ 100 := ⟨int_log (by omega) (by omega), by
  have := (int_clean (n := i) ⟨by omega, by omega⟩).hi
  omega⟩
def spChoice (cw ct : Addr) (K : Frag) : Sp := fun vs H Q E => ∃ (p wl t : Addr) (w : Str) (ws xs : List Str), vs = [.ref p, .ref t] ∧ SqT K H t (xs.map V.str) ∧ Wd cw H p wl (w :: ws) ∧
  (w ∈ xs → ∀ H', X1 p H H' → Wd cw H' p wl ws → Q (.str w) H') ∧ (w ∉ xs → ∀ d H', X1 p H H' → E (.ref ct) (some d) H')
def spWName (a : Ad) : Sp := fun vs H Q E => ∃ (p wl : Addr) (w : Str) (ws : List Str), vs = [.ref p] ∧ Tb a H ∧ Wd a.cw H p wl (w :: ws) ∧
  ((OkName w ∧ ∀ H', X1 p H H' → Wd a.cw H' p wl ws → Q (.str w) H') ∨ (w = Str.empty ∧ ∀ d H', X1 p H H' → E (.ref a.ct) (some d) H'))
def spWNum (a : Ad) : Sp := fun vs H Q E => ∃ (p wl : Addr) (n : Int) (ws : List Str), vs = [.ref p] ∧ Tb a H ∧ Wd a.cw H p wl (sI n :: ws) ∧ OkNum n ∧ ∀ H', X1 p H H' → Wd a.cw H' p wl ws → Q (.int n) H'
def spWSgn (a : Ad) : Sp := fun vs H Q E => ∃ (p wl : Addr) (w : Str) (ws : List Str), vs = [.ref p] ∧ Tb a H ∧ Wd a.cw H p wl (w :: ws) ∧
  ((∃ n, OkInt n ∧ w = sI n ∧ ∀ H', X1 p H H' → Wd a.cw H' p wl ws → Q (.int n) H') ∨ (w = Str.empty ∧ ∀ d H', X1 p H H' → E (.ref a.ct) (some d) H'))
def spEnd (cw ct : Addr) : Sp := fun vs H Q E => ∃ (p wl : Addr) (ws : List Str), vs = [.ref p] ∧ Wd cw H p wl ws ∧ (ws = [] → Q .non H) ∧ (ws ≠ [] → ∀ d H', X1 p H H' → E (.ref ct) (some d) H')
section
variable {a : Ad} {w : World} {K : Frag} {mg : Str → Option Value} {base : Heap}
theorem ok_choice (T : TT a K mg base) (DN : Mf K a.cw "next_word" "Words.next_word" s_Words_next_word) (D : Mf K a.cw "choice" "Words.choice" s_Words_choice) : Mn Pg w K mg base (L2.CX Pg w) 8 a.cw "choice" ["self", "allowed"] (spChoice a.cw a.ct K) := by
  refine D.mn (fun _ _ _ _ _ _ us hl => match us, hl with | [_, _], _ => rfl) fun f fd F => ?_
  refine F.okX (k := 7) sc_Words_choice ?_ fun cdv A outer s H vs Q E hr h => ?_
  · rintro vs H Q E ⟨p, wl, t, w0, ws, xs, rfl, _⟩
    rfl
  have N := ok_next (w := w) T DN
  refine ⟨_, pss_cons (ps_set (i := 2) sc_Words_choice.nd rfl (.inl rfl) (pe_md0 T.cW N (hr.mono (by decide)) (pv 0)))
    (pss_cons (ps_if (pt_cmpR op_notIn_seq (pv 2) (pv 1) rfl) (pss_one (ps_rsTE rfl rfl T.te T.gTE (T.no "super") hr (takes_of rfl rfl rfl rfl) (pa_cons (pe_op op_sub (pe_fld (pv 0) rfl) pe_int) pa_nil))) pss_nil)
    (pss_one (ps_ret (pv 2)))), ?_⟩
  obtain ⟨p, wl, t, w0, ws, xs, rfl, ht, hw, k1, k2⟩ := h
  have ns := wd_ns hw
  have hw0 := hw
  obtain ⟨dx, all, j, h1, _⟩ := hw0
  refine ⟨_, rfl, p, dx, _, rfl, h1, wF_no _ _, p, wl, w0, ws, rfl, hw, fun H1 x1 hw1 => ?_⟩
  have ht1 := x1.sqT ns ht
  refine ⟨_, rfl, _, rfl, t, _, rfl, .inr ht1, rfl, flat_strs xs, _, rfl, ?_⟩
  show if (!inV (.str w0) (xs.map V.str)) = true then _ else _
  rw [in_strs]
  by_cases hm : w0 ∈ xs
  · rw [decide_eq_true hm]
    exact if_f rfl ⟨_, rfl, k1 hm H1 x1 hw1⟩
  · rw [decide_eq_false hm]
    refine if_t rfl ?_
    obtain ⟨dx1, all1, j1, g1, g2, g3, g4, g5⟩ := hw1
    obtain ⟨b1, b2⟩ := at_ok (i := (j1 : Int) - 1) (by omega) (by omega)
    refine ⟨_, rfl, p, a.cw, dx1, _, _, rfl, g1, T.cW, T.nA, wF_at wl j1, _, _, rfl, rfl, _, rfl, b1, b2, fun d nd => k2 hm d _ (x1.trans (Ext.new nd))⟩
theorem ok_wname (T : TT a K mg base) (DN : Mf K a.cw "next_word" "Words.next_word" s_Words_next_word) (D : Mf K a.cw "name" "Words.name" s_Words_name) : Mn Pg w K mg base (L2.CX Pg w) 8 a.cw "name" ["self"] (spWName a) := by
  refine D.mn (fun _ _ _ _ _ _ us hl => match us, hl with | [_], _ => rfl) fun f fd F => ?_
  refine F.okX (k := 7) sc_Words_name ?_ fun cdv A outer s H vs Q E hr h => ?_
  · rintro vs H Q E ⟨p, wl, w0, ws, rfl, _⟩
    rfl
  have N := ok_next (w := w) T DN
  have M := ok_is_name (w := w) T
  refine ⟨_, pss_cons (ps_set (i := 1) sc_Words_name.nd rfl (.inl rfl) (pe_md0 T.cW N (hr.mono (by decide)) (pv 0)))
    (pss_cons (ps_if (pt_not (pt_val (pe_df M (hr.mono (by decide)) (pa_cons (pv 1) pa_nil)))) (pss_one (ps_rsTE rfl rfl T.te T.gTE (T.no "super") hr (takes_of rfl rfl rfl rfl) (pa_cons (pe_op op_sub (pe_fld (pv 0) rfl) pe_int) pa_nil))) pss_nil)
    (pss_one (ps_ret (pv 1)))), ?_⟩
  obtain ⟨p, wl, w0, ws, rfl, tb, hw, hk⟩ := h
  have ns := wd_ns hw
  have hw0 := hw
  obtain ⟨dx, all, j, h1, _⟩ := hw0
  refine ⟨_, rfl, p, dx, _, rfl, h1, wF_no _ _, p, wl, w0, ws, rfl, hw, fun H1 x1 hw1 => ?_⟩
  have tb1 := x1.tb tb
  rcases hk with ⟨hn, k⟩ | ⟨rfl, k⟩
  · exact ⟨_, rfl, w0, rfl, tb1.1, .inl ⟨hn, fun H2 x2 => ⟨_, rfl, if_f rfl ⟨_, rfl, k H2 (x1.trans x2.x1) (wd_x0 hw1 x2)⟩⟩⟩⟩
  · refine ⟨_, rfl, _, rfl, tb1.1, .inr ⟨rfl, fun H2 x2 => ⟨_, rfl, if_t rfl ?_⟩⟩⟩
    obtain ⟨dx1, all1, j1, g1, g2, g3, g4, g5⟩ := wd_x0 hw1 x2
    obtain ⟨b1, b2⟩ := at_ok (i := (j1 : Int) - 1) (by omega) (by omega)
    refine ⟨_, rfl, p, a.cw, dx1, _, _, rfl, g1, T.cW, T.nA, wF_at wl j1, _, _, rfl, rfl, _, rfl, b1, b2, fun d nd => k d _ ((x1.trans x2.x1).trans (Ext.new nd))⟩
theorem ok_wnum (T : TT a K mg base) (DN : Mf K a.cw "next_word" "Words.next_word" s_Words_next_word) (D : Mf K a.cw "number" "Words.number" s_Words_number) : Mn Pg w K mg base CX0 8 a.cw "number" ["self"] (spWNum a) := by
  refine D.mn (fun _ _ _ _ _ _ us hl => match us, hl with | [_], _ => rfl) fun f fd F => ?_
  refine F.ok (k := 7) sc_Words_number ?_ fun cdv A outer s H vs Q E hr h => ?_
  · rintro vs H Q E ⟨p, wl, w0, ws, rfl, _⟩
    rfl
  have N := ok_next (w := w) T DN
  have M := ok_is_number (w := w) T
  refine ⟨_, pss_cons (ps_set (i := 1) sc_Words_number.nd rfl (.inl rfl) (pe_md0 T.cW N (hr.mono (by decide)) (pv 0)))
    (pss_cons (ps_if (pt_not (pt_val (pe_df M (hr.mono (by decide)) (pa_cons (pv 1) pa_nil)))) (pss_one ps_never) pss_nil)
    (pss_one (ps_ret (pe_callTy call_int_str (by rfl) (T.no "int") (by decide +kernel) (pa_cons (pv 1) pa_nil))))), ?_⟩
  obtain ⟨p, wl, n, ws, rfl, tb, hw, hn, k⟩ := h
  have hw0 := hw
  obtain ⟨dx, all, j, h1, _⟩ := hw0
  refine ⟨_, rfl, p, dx, _, rfl, h1, wF_no _ _, p, wl, _, ws, rfl, hw, fun H1 x1 hw1 => ?_⟩
  refine ⟨_, rfl, _, rfl, (x1.tb tb).2.1, .inl ⟨⟨n, hn, rfl⟩, fun H2 x2 => ⟨_, rfl, if_f rfl ⟨_, rfl, _, n, rfl, num_text hn, ?_, k H2 (x1.trans x2.x1) (wd_x0 hw1 x2)⟩⟩⟩⟩
  have := (num_len hn).2
  omega
theorem ok_wsgn (T : TT a K mg base) (DN : Mf K a.cw "next_word" "Words.next_word" s_Words_next_word) (DS : Df K mg "is_signed" s_is_signed) (D : Mf K a.cw "signed" "Words.signed" s_Words_signed) : Mn Pg w K mg base (L2.CX Pg w) 8 a.cw "signed" ["self"] (spWSgn a) := by
  refine D.mn (fun _ _ _ _ _ _ us hl => match us, hl with | [_], _ => rfl) fun f fd F => ?_
  refine F.okX (k := 7) sc_Words_signed ?_ fun cdv A outer s H vs Q E hr h => ?_
  · rintro vs H Q E ⟨p, wl, w0, ws, rfl, _⟩
    rfl
  have N := ok_next (w := w) T DN
  have M := ok_is_signed (w := w) T DS
  refine ⟨_, pss_cons (ps_set (i := 1) sc_Words_signed.nd rfl (.inl rfl) (pe_md0 T.cW N (hr.mono (by decide)) (pv 0)))
    (pss_cons (ps_if (pt_not (pt_val (pe_df M (hr.mono (by decide)) (pa_cons (pv 1) pa_nil)))) (pss_one (ps_rsTE rfl rfl T.te T.gTE (T.no "super") hr (takes_of rfl rfl rfl rfl) (pa_cons (pe_op op_sub (pe_fld (pv 0) rfl) pe_int) pa_nil))) pss_nil)
    (pss_one (ps_ret (pe_callTy call_int_str (by rfl) (T.no "int") (by decide +kernel) (pa_cons (pv 1) pa_nil))))), ?_⟩
  obtain ⟨p, wl, w0, ws, rfl, tb, hw, hk⟩ := h
  have hw0 := hw
  obtain ⟨dx, all, j, h1, _⟩ := hw0
  refine ⟨_, rfl, p, dx, _, rfl, h1, wF_no _ _, p, wl, w0, ws, rfl, hw, fun H1 x1 hw1 => ?_⟩
  have tb1 := x1.tb tb
  rcases hk with ⟨n, hn, rfl, k⟩ | ⟨rfl, k⟩
  · exact ⟨_, rfl, _, rfl, tb1.2.1, .inl ⟨⟨n, hn, rfl⟩, fun H2 x2 => ⟨_, rfl, if_f rfl ⟨_, rfl, _, n, rfl, int_text hn, int_len hn, k H2 (x1.trans x2.x1) (wd_x0 hw1 x2)⟩⟩⟩⟩
  · refine ⟨_, rfl, _, rfl, tb1.2.1, .inr ⟨rfl, fun H2 x2 => ⟨_, rfl, if_t rfl ?_⟩⟩⟩
    obtain ⟨dx1, all1, j1, g1, g2, g3, g4, g5⟩ := wd_x0 hw1 x2
    obtain ⟨b1, b2⟩ := at_ok (i := (j1 : Int) - 1) (by omega) (by omega)
    refine ⟨_, rfl, p, a.cw, dx1, _, _, rfl, g1, T.cW, T.nA, wF_at wl j1, _, _, rfl, rfl, _, rfl, b1, b2, fun d nd => k d _ ((x1.trans x2.x1).trans (Ext.new nd))⟩
theorem ok_end (T : TT a K mg base) (D : Mf K a.cw "end" "Words.end" s_Words_end) : Mn Pg w K mg base (L2.CX Pg w) 8 a.cw "end" ["self"] (spEnd a.cw a.ct) := by
  refine D.mn (fun _ _ _ _ _ _ us hl => match us, hl with | [_], _ => rfl) fun f fd F => ?_
  refine F.okX (k := 7) sc_Words_end ?_ fun cdv A outer s H vs Q E hr h => ?_
  · rintro vs H Q E ⟨p, wl, ws, rfl, _⟩
    rfl
  refine ⟨_, pss_one (ps_if (pt_cmpR op_lt (pe_fld (pv 0) rfl) (pe_callB call_len_seq (by rfl) (T.no "len") PySem.boot_len (pa_cons (pe_fld (pv 0) rfl) pa_nil)) (nomark _))
    (pss_one (ps_rsTE rfl rfl T.te T.gTE (T.no "super") hr (takes_of rfl rfl rfl rfl) (pa_cons (pe_fld (pv 0) rfl) pa_nil))) pss_nil), ?_⟩
  obtain ⟨p, wl, ws, rfl, ⟨dx, all, j, h1, h2, h3, h4, h5⟩, k1, k2⟩ := h
  refine ⟨_, rfl, p, a.cw, dx, _, _, rfl, h1, T.cW, T.nA, wF_at wl j, _, rfl, p, a.cw, dx, _, _, rfl, h1, T.cW, T.nW, wF_words wl j, wl, _, rfl, .inl (SqL.of h2), _, _, rfl, rfl, _, rfl, ?_⟩
  rw [List.length_map]
  by_cases z : j < all.length
  · refine if_t (decide_eq_true (by omega)) ?_
    obtain ⟨b1, b2⟩ := at_ok (i := (j : Int)) (by omega) (by omega)
    refine ⟨_, rfl, p, a.cw, dx, _, _, rfl, h1, T.cW, T.nA, wF_at wl j, _, rfl, b1, b2, fun d nd => k2 (fun e => ?_) d _ (Ext.new nd)⟩
    rw [← h3, List.drop_eq_nil_iff] at e
    omega
  · refine if_f (decide_eq_false (by omega)) (k1 ?_)
    rw [← h3, List.drop_eq_nil_iff]
    omega
end
end K31
/-! K31, defs 4: the readings of the methods; read_change, read_clearance_words, read_message_words. -/
namespace K31
open PySem PySem.Spec PyProof.Rows L2 GxR
open PySem.W (Frag)
open TL (tl)
/-- all methods of Words -/
structure Ms (w : World) (K : Frag) (mg : Str → Option Value) (base : Heap) (a : Ad) : Prop where
  left : Mn Pg w K mg base CX0 2 a.cw "left" ["self"] (spLeft a.cw)
  coming : Mn Pg w K mg base CX0 2 a.cw "coming" ["self"] (spComing a.cw)
  next : Mn Pg w K mg base CX0 2 a.cw "next_word" ["self"] (spNext a.cw)
  choice : Mn Pg w K mg base (L2.CX Pg w) 8 a.cw "choice" ["self", "allowed"] (spChoice a.cw a.ct K)
  name : Mn Pg w K mg base (L2.CX Pg w) 8 a.cw "name" ["self"] (spWName a)
  number : Mn Pg w K mg base CX0 8 a.cw "number" ["self"] (spWNum a)
  signed : Mn Pg w K mg base (L2.CX Pg w) 8 a.cw "signed" ["self"] (spWSgn a)
  fin : Mn Pg w K mg base (L2.CX Pg w) 8 a.cw "end" ["self"] (spEnd a.cw a.ct)
/-- the words object, ready -/
structure Rd (a : Ad) (H : Hp) (p wl : Addr) (ws : List Str) : Prop where
  wd : Wd a.cw H p wl ws
  tb : Tb a H
theorem Rd.x0 {a : Ad} {H H' : Hp} {p wl : Addr} {ws : List Str} (h : Rd a H p wl ws) (x : X0 H H') : Rd a H' p wl ws := ⟨wd_x0 h.wd x, x.tb h.tb⟩
theorem Rd.new {a : Ad} {H : Hp} {p l wl : Addr} {ws : List Str} {o : HO} (h : Rd a H p wl ws) (n : H l = none) : Rd a (upd H l o) p wl ws := h.x0 (Ext.new n)
theorem Rd.ns {a : Ad} {H : Hp} {p wl : Addr} {ws : List Str} (h : Rd a H p wl ws) : NS (fun b => b = p) H := wd_ns h.wd
theorem Rd.apart {a : Ad} {H : Hp} {p wl l : Addr} {ws : List Str} (h : Rd a H p wl ws) (n : H l = none) : p ≠ l ∧ wl ≠ l := by
  obtain ⟨dx, all, j, g1, g2, _⟩ := h.wd
  exact ⟨ne_of_none g1 n, ne_of_none g2 n⟩
theorem Rd.own {a : Ad} {H : Hp} {p wl l : Addr} {ws : List Str} {xs : List V} {o : HO} (h : Rd a H p wl ws) (n : p ≠ l ∧ wl ≠ l) (hl : H l = some (.lst xs)) : Rd a (upd H l o) p wl ws := by
  refine ⟨?_, (Ext.put (M := fun b => b = l) hl (fun _ z => by cases z) rfl).tb h.tb⟩
  obtain ⟨dx, all, j, g1, g2, g3⟩ := h.wd
  exact ⟨dx, all, j, by rw [upd_ne n.1]; exact g1, by rw [upd_ne n.2]; exact g2, g3⟩
/-- written texts, in a row -/
def tStrs : List Str → TA
  | [] => tNil
  | x :: r => tCons (tC (.str x)) (tStrs r)
theorem tStrs_ok {σ : L2.St} {H : Hp} : ∀ (xs : List Str) {Q : List V → Hp → Prop}, Q (xs.map V.str) H → tStrs xs σ H Q
  | [], Q, q => q
  | x :: r, Q, q => tStrs_ok r (Q := fun vs H2 => Q (.str x :: vs) H2) q
section
variable {a : Ad} {K : Frag} {σ : L2.St} {H : Hp} {Q : VK} {E : L2.St → XK} {p wl : Addr} {i : Nat} {ws : List Str} {w0 : Str}
theorem wd_ins {cw : Addr} (h : Wd cw H p wl ws) : ∃ dx j, H p = some (.ins cw dx (wF wl j)) := by
  obtain ⟨dx, all, j, h1, _⟩ := h
  exact ⟨dx, j, h1⟩
theorem rd_choice (xs : List Str) (hi : σ[i]? = some (some (.ref p))) (h : Rd a H p wl (w0 :: ws)) (hm : w0 ∈ xs) (hl : xs.length ≤ 100) (k : ∀ H', X1 p H H' → Rd a H' p wl ws → Q (.str w0) H') :
    tMethE a.cw "choice" (spChoice a.cw a.ct K) E (tVar i) (tCons (tTup (tStrs xs)) tNil) σ H Q := by
  obtain ⟨dx, j, h1⟩ := wd_ins h.wd
  refine ⟨_, hi, p, dx, _, rfl, h1, wF_no _ _, tStrs_ok xs ⟨szl (by rw [List.length_map]; omega), fun t nt => ?_⟩⟩
  refine ⟨p, wl, t, w0, ws, xs, rfl, SqT.of upd_same, (h.new nt).wd, fun _ H' x hw => ?_, fun n => absurd hm n⟩
  have x2 := (Ext.new nt : X1 p _ _).trans x
  exact k H' x2 ⟨hw, x2.tb h.tb⟩
theorem rd_choiceX (xs : List Str) (hi : σ[i]? = some (some (.ref p))) (h : Rd a H p wl (w0 :: ws)) (hm : w0 ∉ xs) (hl : xs.length ≤ 100) (k : ∀ d H', X1 p H H' → E σ (.ref a.ct) (some d) H') :
    tMethE a.cw "choice" (spChoice a.cw a.ct K) E (tVar i) (tCons (tTup (tStrs xs)) tNil) σ H Q := by
  obtain ⟨dx, j, h1⟩ := wd_ins h.wd
  refine ⟨_, hi, p, dx, _, rfl, h1, wF_no _ _, tStrs_ok xs ⟨szl (by rw [List.length_map]; omega), fun t nt => ?_⟩⟩
  exact ⟨p, wl, t, w0, ws, xs, rfl, SqT.of upd_same, (h.new nt).wd, fun n => absurd n hm, fun _ d H' x => k d H' ((Ext.new nt : X1 p _ _).trans x)⟩
theorem rd_name (hi : σ[i]? = some (some (.ref p))) (h : Rd a H p wl (w0 :: ws)) (hn : OkName w0) (k : ∀ H', X1 p H H' → Rd a H' p wl ws → Q (.str w0) H') :
    tMethE a.cw "name" (spWName a) E (tVar i) tNil σ H Q := by
  obtain ⟨dx, j, h1⟩ := wd_ins h.wd
  exact ⟨_, hi, p, dx, _, rfl, h1, wF_no _ _, p, wl, w0, ws, rfl, h.tb, h.wd, .inl ⟨hn, fun H' x hw => k H' x ⟨hw, x.tb h.tb⟩⟩⟩
theorem rd_nameX (hi : σ[i]? = some (some (.ref p))) (h : Rd a H p wl (Str.empty :: ws)) (k : ∀ d H', X1 p H H' → E σ (.ref a.ct) (some d) H') :
    tMethE a.cw "name" (spWName a) E (tVar i) tNil σ H Q := by
  obtain ⟨dx, j, h1⟩ := wd_ins h.wd
  exact ⟨_, hi, p, dx, _, rfl, h1, wF_no _ _, p, wl, _, ws, rfl, h.tb, h.wd, .inr ⟨rfl, k⟩⟩
theorem rd_num {n : Int} (hi : σ[i]? = some (some (.ref p))) (h : Rd a H p wl (sI n :: ws)) (hn : OkNum n) (k : ∀ H', X1 p H H' → Rd a H' p wl ws → Q (.int n) H') :
    tMeth a.cw "number" (spWNum a) [] E0 (tVar i) tNil σ H Q := by
  obtain ⟨dx, j, h1⟩ := wd_ins h.wd
  exact ⟨_, hi, p, dx, _, rfl, h1, wF_no _ _, p, wl, n, ws, rfl, h.tb, h.wd, hn, fun H' x hw => k H' x ⟨hw, x.tb h.tb⟩⟩
theorem rd_sgn {n : Int} (hi : σ[i]? = some (some (.ref p))) (h : Rd a H p wl (sI n :: ws)) (hn : OkInt n) (k : ∀ H', X1 p H H' → Rd a H' p wl ws → Q (.int n) H') :
    tMethE a.cw "signed" (spWSgn a) E (tVar i) tNil σ H Q := by
  obtain ⟨dx, j, h1⟩ := wd_ins h.wd
  exact ⟨_, hi, p, dx, _, rfl, h1, wF_no _ _, p, wl, _, ws, rfl, h.tb, h.wd, .inl ⟨n, hn, rfl, fun H' x hw => k H' x ⟨hw, x.tb h.tb⟩⟩⟩
theorem rd_sgnX (hi : σ[i]? = some (some (.ref p))) (h : Rd a H p wl (Str.empty :: ws)) (k : ∀ d H', X1 p H H' → E σ (.ref a.ct) (some d) H') :
    tMethE a.cw "signed" (spWSgn a) E (tVar i) tNil σ H Q := by
  obtain ⟨dx, j, h1⟩ := wd_ins h.wd
  exact ⟨_, hi, p, dx, _, rfl, h1, wF_no _ _, p, wl, _, ws, rfl, h.tb, h.wd, .inr ⟨rfl, k⟩⟩
theorem rd_left (hi : σ[i]? = some (some (.ref p))) (h : Rd a H p wl ws) (k : Q (.int (ws.length : Int)) H) : tMeth a.cw "left" (spLeft a.cw) [] E0 (tVar i) tNil σ H Q := by
  obtain ⟨dx, j, h1⟩ := wd_ins h.wd
  exact ⟨_, hi, p, dx, _, rfl, h1, wF_no _ _, p, wl, ws, rfl, h.wd, k⟩
theorem rd_coming (hi : σ[i]? = some (some (.ref p))) (h : Rd a H p wl (w0 :: ws)) (k : Q (.str w0) H) : tMeth a.cw "coming" (spComing a.cw) [] E0 (tVar i) tNil σ H Q := by
  obtain ⟨dx, j, h1⟩ := wd_ins h.wd
  exact ⟨_, hi, p, dx, _, rfl, h1, wF_no _ _, p, wl, w0, ws, rfl, h.wd, k⟩
theorem rd_next (hi : σ[i]? = some (some (.ref p))) (h : Rd a H p wl (w0 :: ws)) (k : ∀ H', X1 p H H' → Rd a H' p wl ws → Q (.str w0) H') : tMeth a.cw "next_word" (spNext a.cw) [] E0 (tVar i) tNil σ H Q := by
  obtain ⟨dx, j, h1⟩ := wd_ins h.wd
  exact ⟨_, hi, p, dx, _, rfl, h1, wF_no _ _, p, wl, w0, ws, rfl, h.wd, fun H' x hw => k H' x ⟨hw, x.tb h.tb⟩⟩
end
/-! ### read_change -/
theorem name_ne {n s : Str} (h : OkName n) {c : Nat} {r : List Nat} (e : tl s = c :: r) (hc : ¬ Cap c) : n ≠ s := fun z => by
  obtain ⟨d, r', e', hd, _⟩ := h
  rw [z, e] at e'
  injection e' with z1 _
  rw [z1] at hc
  exact hc hd
theorem name_stroke {n : Str} (h : OkName n) : n ≠ "/" := name_ne h (c := 47) (r := []) (by decide +kernel) (by unfold Cap; omega)
/-- what may follow a change -/
def Tail (rest : List Str) : Prop := rest = [] ∨ rest = [Str.empty] ∨ ∃ r, rest = ("/" : Str) :: r
def spRdChg (a : Ad) (K : Frag) : Sp := fun vs H Q E => ∃ (p wl : Addr), vs = [.ref p] ∧ ((∃ (c : Chg) (rest : List Str), Rd a H p wl (c.ws ++ rest) ∧ OkChg c ∧ Tail rest ∧
  (¬ (c.isRt = true ∧ rest = [Str.empty]) → ∀ v H', X1 p H H' → Rd a H' p wl rest → Dp K H' v c.d → Q v H') ∧ (c.isRt = true → rest = [Str.empty] → ∀ d H', X1 p H H' → E (.ref a.ct) (some d) H')) ∨
  (∃ ws, Rd a H p wl (Str.empty :: ws) ∧ ∀ d H', X1 p H H' → E (.ref a.ct) (some d) H'))
section
variable {a : Ad} {w : World} {K : Frag} {mg : Str → Option Value} {base : Heap}
theorem ok_read_change (T : TT a K mg base) (M : Ms w K mg base a) (D : Df K mg "read_change" s_read_change) : Dn Pg w K mg base (L2.CX Pg w) 10 "read_change" ["words"] (spRdChg a K) := by
  refine D.dn (fun _ _ _ _ _ _ us hl => match us, hl with | [_], _ => rfl) fun f fd F => ?_
  refine F.okX (k := 9) sc_read_change ?_ fun cdv A outer s H vs Q E hr h => ?_
  · rintro vs H Q E ⟨p, wl, rfl, _⟩
    rfl
  obtain ⟨tS, gS⟩ := T.sEP
  have r8 : Room 8 _ := hr.mono (by decide)
  have r2 : Room 2 _ := hr.mono (by decide)
  refine ⟨_, pss_cons (ps_set (i := 1) sc_read_change.nd rfl (.inl rfl) (pe_mx T.cW M.choice r8 (takes_of rfl rfl rfl rfl) (pv 0) (pa_cons (pe_tup (pa_cons pe_str (pa_cons pe_str (pa_cons pe_str pa_nil)))) pa_nil)))
    (pss_cons (ps_if (pt_cmpR op_eq (pv 1) pe_str (nomark _)) (pss_one (ps_ret (pe_tup (pa_cons pe_str (pa_cons (pe_md0 T.cW M.number r8 (pv 0)) pa_nil))))) pss_nil)
    (pss_cons (ps_if (pt_cmpR op_eq (pv 1) pe_str (nomark _)) (pss_one (ps_ret (pe_tup (pa_cons pe_str (pa_cons (pe_md0 T.cW M.number r8 (pv 0)) pa_nil))))) pss_nil)
    (pss_cons (ps_set (i := 2) sc_read_change.nd rfl (.inl rfl) (pe_lst (pa_cons (pe_mx0 T.cW M.name r8 (takes_of rfl rfl rfl rfl) (pv 0)) (pa_cons (pe_mx0 T.cW M.name r8 (takes_of rfl rfl rfl rfl) (pv 0)) pa_nil))))
    (pss_cons (ps_while (passes_of rfl) (PW.pt (pw_and (pt_cmpR op_gt (pe_md0 T.cW M.left r2 (pv 0)) pe_int (nomark _)) (pw_and1 (pt_cmpR op_ne (pe_md0 T.cW M.coming r2 (pv 0)) (pe_gs gS) (nomark _)))))
      (pss_one (ps_expr (pe_bm PySem.F.plainAttrs_list PySem.F.slot_list_append PySem.F.type_list_append mt_append (pv 2) (pa_cons (pe_mx0 T.cW M.name r8 (takes_of rfl rfl rfl rfl) (pv 0)) pa_nil)))))
    (pss_one (ps_ret (pe_tup (pa_cons pe_str (pa_cons (pe_callTy call_tuple_of (by rfl) (T.no "tuple") (by decide +kernel) (pa_cons (pv 2) pa_nil)) pa_nil))))))))), ?_⟩
  obtain ⟨p, wl, rfl, ⟨c, rest, hw, hc, ht, k1, k2⟩ | ⟨ws, hw, k2⟩⟩ := h
  rotate_left
  · exact rd_choiceX ["LEVEL", "SPEED", "ROUTE"] rfl hw (by decide +kernel) (by decide) fun d H5 x5 => k2 d H5 x5
  cases c with
  | lvl n =>
    refine rd_choice ["LEVEL", "SPEED", "ROUTE"] rfl hw (by decide +kernel) (by decide) fun H1 x1 w1 => ?_
    refine ⟨_, rfl, rfl, _, rfl, if_t (by decide +kernel) ?_⟩
    refine rd_num rfl w1 hc fun H2 x2 w2 => ⟨(by show 2 ≤ sizeLine; decide), fun t nt => ?_⟩
    exact k1 (fun z => Bool.noConfusion z.1) _ _ ((x1.trans x2).trans (Ext.new nt)) (w2.new nt) (dp_newT upd_same (.cons (.str _) (.cons (.int _) .nil)))
  | spd n =>
    refine rd_choice ["LEVEL", "SPEED", "ROUTE"] rfl hw (by decide +kernel) (by decide) fun H1 x1 w1 => ?_
    refine ⟨_, rfl, rfl, _, rfl, if_f (by decide +kernel) ?_⟩
    refine ⟨_, rfl, rfl, _, rfl, if_t (by decide +kernel) ?_⟩
    refine rd_num rfl w1 hc fun H2 x2 w2 => ⟨(by show 2 ≤ sizeLine; decide), fun t nt => ?_⟩
    exact k1 (fun z => Bool.noConfusion z.1) _ _ ((x1.trans x2).trans (Ext.new nt)) (w2.new nt) (dp_newT upd_same (.cons (.str _) (.cons (.int _) .nil)))
  | rt ns =>
    obtain ⟨l1, l2, hn⟩ := hc
    obtain ⟨n1, n2, r, rfl⟩ : ∃ n1 n2 r, ns = n1 :: n2 :: r := match ns, l1 with
      | n1 :: n2 :: r, _ => ⟨n1, n2, r, rfl⟩
    refine rd_choice ["LEVEL", "SPEED", "ROUTE"] rfl hw (by decide +kernel) (by decide) fun H1 x1 w1 => ?_
    refine ⟨_, rfl, rfl, _, rfl, if_f (by decide +kernel) ?_⟩
    refine ⟨_, rfl, rfl, _, rfl, if_f (by decide +kernel) ?_⟩
    refine rd_name rfl w1 (hn _ (by simp)) fun H2 x2 w2 => ?_
    refine rd_name rfl w2 (hn _ (by simp)) fun H3 x3 w3 => ⟨(by show 2 ≤ sizeLine; decide), fun l nl => ?_⟩
    have x123 := (x1.trans x2).trans x3
    have ap := w3.apart nl
    refine ⟨fun m σ' H' => ∃ done todo, done ++ todo = n1 :: n2 :: r ∧ m = todo.length ∧ σ' = [some (.ref p), some (.str "ROUTE"), some (.ref l)] ∧ X1 p H3 H' ∧ Rd a H' p wl (todo ++ rest) ∧ H' l = some (.lst (done.map V.str)),
      ⟨_, [n1, n2], r, rfl, rfl, rfl, Ext.new nl, w3.new nl, upd_same⟩, ?_⟩
    rintro m σ' H' ⟨done, todo, hd, rfl, rfl, x4, w4, hl⟩
    cases todo with
    | cons n todo =>
      have on : OkName n := hn n (by rw [← hd]; simp)
      refine rd_left rfl w4 ⟨_, _, rfl, rfl, _, rfl, if_t (decide_eq_true (by show (0 : Int) < (((n :: todo) ++ rest).length : Int); rw [List.length_append, List.length_cons]; omega)) ?_⟩
      refine rd_coming rfl w4 ⟨rfl, _, rfl, if_t ?_ ?_⟩
      · show (!decide (V.str n = V.str "/")) = true
        rw [decide_eq_false (fun z => name_stroke on (V.str.inj z))]
        rfl
      refine ⟨fun σ' H' => ∃ m', m' < (n :: todo).length ∧ ∃ done todo, done ++ todo = n1 :: n2 :: r ∧ m' = todo.length ∧ σ' = [some (.ref p), some (.str "ROUTE"), some (.ref l)] ∧ X1 p H3 H' ∧ Rd a H' p wl (todo ++ rest) ∧ H' l = some (.lst (done.map V.str)), fun _ _ z => z, ?_⟩
      refine ⟨_, rfl, .inl ⟨rfl, _, SqL.of hl⟩, ?_⟩
      refine rd_name rfl w4 on fun H5 x5 w5 => ?_
      have hl5 : H5 l = some (.lst (done.map V.str)) := x5.seq w4.ns hl rfl
      have ll : done.length + todo.length + 1 = r.length + 2 := by
        have := congrArg List.length hd
        rw [List.length_append, List.length_cons, List.length_cons, List.length_cons] at this
        omega
      refine ⟨l, _, _, rfl, rfl, hl5, small1000 (by rw [List.length_map]; rw [List.length_cons, List.length_cons] at l2; omega), ?_⟩
      refine ⟨todo.length, by rw [List.length_cons]; omega, done ++ [n], todo, by rw [List.append_assoc]; exact hd, rfl, rfl, Ext.own (x4.trans x5) nl hl5 (fun _ z => by cases z), ?_, ?_⟩
      · exact w5.own ap hl5
      · rw [upd_same, List.map_append]
        rfl
    | nil =>
      rw [List.append_nil] at hd
      subst hd
      have fin : ¬ rest = [Str.empty] → (tRet (tTup (tCons (tC (.str "route")) (tCons (tCB (fun xs H Q => ∃ p ys, xs = [.ref p] ∧ ((SqL K H p ys ∧ ∀ l, H l = none → Q (.ref l) (upd H l (.tup ys))) ∨ (SqT K H p ys ∧ Q (.ref p) H))) (tCons (tVar 2) tNil)) tNil)))) { nx := fun _ H' => Q .non H', rt := Q } [some (.ref p), some (.str "ROUTE"), some (.ref l)] H' := fun hr => by
        refine ⟨_, rfl, l, _, rfl, .inl ⟨SqL.of hl, fun t nt => ⟨(by show 2 ≤ sizeLine; decide), fun u nu => ?_⟩⟩⟩
        have w6 := (w4.new nt (o := .tup (List.map V.str (n1 :: n2 :: r)))).new nu (o := .tup [.str "route", .ref t])
        refine k1 (fun z => hr z.2) _ _ (((x123.trans x4).trans (Ext.new nt)).trans (Ext.new nu)) w6 (dp_newT upd_same (.cons (.str _) (.cons ?_ .nil)))
        exact (Ext.new nu : X0 _ _).dp0 (dp_newT upd_same (strs_dpa _))
      rcases ht with rfl | rfl | ⟨r2, rfl⟩
      · exact rd_left rfl w4 ⟨_, _, rfl, rfl, _, rfl, if_f rfl (fin (by simp))⟩
      · refine rd_left rfl w4 ⟨_, _, rfl, rfl, _, rfl, if_t rfl ?_⟩
        refine rd_coming rfl w4 ⟨rfl, _, rfl, if_t (by decide +kernel) ?_⟩
        refine ⟨fun _ _ => False, fun _ _ z => z.elim, _, rfl, .inl ⟨rfl, _, SqL.of hl⟩, ?_⟩
        exact rd_nameX rfl w4 fun d H5 x5 => k2 rfl rfl d H5 ((x123.trans x4).trans x5)
      · refine rd_left rfl w4 ⟨_, _, rfl, rfl, _, rfl, if_t (decide_eq_true (by show (0 : Int) < ((([] : List Str) ++ ("/" : Str) :: r2).length : Int); rw [List.nil_append, List.length_cons]; omega)) ?_⟩
        refine rd_coming rfl w4 ⟨rfl, _, rfl, if_f (by decide +kernel) (fin ?_)⟩
        intro z
        exact absurd (List.cons.inj z).1 (by decide +kernel)
end
end K31
/-! K31, defs 5: the readers of clearances, messages, requests. -/
namespace K31
open PySem PySem.Spec PyProof.Rows L2 GxR
open PySem.W (Frag)
open TL (tl)
/-- a reader: of the words of c, what follows them is left; where c stops and an empty word follows, TextError -/
def spRdX (a : Ad) (K : Frag) {α : Type} (ws : α → List Str) (dd : α → PyData) (ok : α → Prop) (stops : α → Bool) (tl : List Str → Prop) : Sp := fun vs H Q E => ∃ (p wl : Addr) (c : α) (rest : List Str), vs = [.ref p] ∧ Rd a H p wl (ws c ++ rest) ∧ ok c ∧ tl rest ∧
  (¬ (stops c = true ∧ rest = [Str.empty]) → ∀ v H', X1 p H H' → Rd a H' p wl rest → Dp K H' v (dd c) → Q v H') ∧ (stops c = true → rest = [Str.empty] → ∀ d H', X1 p H H' → E (.ref a.ct) (some d) H')
abbrev spRdClr (a : Ad) (K : Frag) : Sp := spRdX a K Clr.ws Clr.d OkClr (fun c => c.ch.isRt) Tail
abbrev spRdMsg (a : Ad) (K : Frag) : Sp := spRdX a K Msg.ws Msg.d OkMsg Msg.stops Tail
abbrev spRdReq (a : Ad) (K : Frag) : Sp := spRdX a K Req.ws Req.d OkReq (fun _ => false) (fun _ => True)
/-- a written dict of texts -/
def SD (K : Frag) (w : World) (mg : Str → Option Value) (x : Str) (yes : List (Str × Str)) (no : List Str) : Prop :=
  ∃ d, mg x = some (.ref d) ∧ (∃ es n, KDict K w d es n) ∧ (∀ p ∈ yes, ∃ t, PySem.W.nsIn K d p.1 = some (some (.str p.2 t))) ∧ ∀ z ∈ no, PySem.W.nsIn K d z = some none
theorem KDict.dct {K : Frag} {w : World} {d : Addr} {es : Array DictEntry} {n : Nat} (D : KDict K w d es n) {k : Str} {v : V} {u : Value} (h : PySem.W.nsIn K d k = some (some u)) (r : RelV v u) : KDct K w d k v := ⟨es, n, u, D.at_, D.lit, h, r⟩
section
variable {a : Ad} {w : World} {K : Frag} {mg : Str → Option Value} {base : Heap}
theorem ok_read_clearance (T : TT a K mg base) (M : Ms w K mg base a) (DC : Df K mg "read_change" s_read_change) (D : Df K mg "read_clearance_words" s_read_clearance_words) : Dn Pg w K mg base (L2.CX Pg w) 11 "read_clearance_words" ["words"] (spRdClr a K) := by
  refine D.dn (fun _ _ _ _ _ _ us hl => match us, hl with | [_], _ => rfl) fun f fd F => ?_
  refine F.okX (k := 10) sc_read_clearance_words ?_ fun cdv A outer s H vs Q E hr h => ?_
  · rintro vs H Q E ⟨p, wl, c, rest, rfl, _⟩
    rfl
  have C := ok_read_change T M DC
  have r8 : Room 8 _ := hr.mono (by decide)
  refine ⟨_, pss_cons (ps_set (i := 1) sc_read_clearance_words.nd rfl (.inl rfl) (pe_mx0 T.cW M.name r8 (takes_of rfl rfl rfl rfl) (pv 0)))
    (pss_cons (ps_set (i := 2) sc_read_clearance_words.nd rfl (.inl rfl) (pe_md0 T.cW M.number r8 (pv 0)))
    (pss_cons (ps_expr (pe_mx T.cW M.choice r8 (takes_of rfl rfl rfl rfl) (pv 0) (pa_cons (pe_tup (pa_cons pe_str pa_nil)) pa_nil)))
    (pss_cons (ps_set (i := 3) sc_read_clearance_words.nd rfl (.inl rfl) (pe_md0 T.cW M.number r8 (pv 0)))
    (pss_one (ps_ret (pe_tup (pa_cons (pv 1) (pa_cons (pv 2) (pa_cons (pv 3) (pa_cons (pe_dx C hr (takes_of rfl rfl rfl rfl) (pa_cons (pv 0) pa_nil)) pa_nil)))))))))), ?_⟩
  obtain ⟨p, wl, c, rest, rfl, hw, hc, ht, k1, k2⟩ := h
  refine rd_name rfl hw hc.fl fun H1 x1 w1 => ?_
  refine rd_num rfl w1 hc.num fun H2 x2 w2 => ?_
  refine rd_choice ["AT"] rfl w2 (by simp) (by decide) fun H3 x3 w3 => ?_
  refine rd_num rfl w3 hc.tk fun H4 x4 w4 => ?_
  have x14 := ((x1.trans x2).trans x3).trans x4
  refine ⟨_, rfl, _, rfl, _, rfl, _, rfl, p, wl, rfl, .inl ⟨c.ch, rest, w4, hc.ch, ht, fun hn v H5 x5 w5 dv => ?_, fun h1 h2 d H5 x5 => k2 h1 h2 d H5 (x14.trans x5)⟩⟩
  refine ⟨(by show 4 ≤ sizeLine; decide), fun t nt => k1 hn _ _ ((x14.trans x5).trans (Ext.new nt)) (w5.new nt) ?_⟩
  exact dp_newT upd_same (.cons (.str _) (.cons (.int _) (.cons (.int _) (.cons ((Ext.new nt : X0 _ _).dp0 dv) .nil))))
theorem lk_up (k : LK) : Txt.lower k.up = k.lo := by cases k <;> decide +kernel
theorem sk_up (k : SK) : Txt.lower k.up = k.lo := by cases k <;> decide +kernel
def lgT : List (Str × Str) := [("say", "SAY"), ("read", "READ"), ("confirm", "CONFIRM")]
def shT : List (Str × Str) := [("ask", "ASK"), ("taken", "TAKEN"), ("not", "NOT")]
theorem lk_mem (k : LK) : (k.lo, k.up) ∈ lgT := by cases k <;> decide +kernel
theorem sk_mem (k : SK) : (k.lo, k.up) ∈ shT := by cases k <;> decide +kernel
theorem sk_no (k : SK) : k.lo ∈ ([("ask" : Str), "taken", "not"] : List Str) := by cases k <;> decide +kernel
theorem lk_kind (k : LK) : k.up ∈ ([("SAY" : Str), "READ", "CONFIRM", "ASK", "TAKEN", "NOT"] : List Str) := by cases k <;> decide +kernel
theorem sk_kind (k : SK) : k.up ∈ ([("SAY" : Str), "READ", "CONFIRM", "ASK", "TAKEN", "NOT"] : List Str) := by cases k <;> decide +kernel
theorem lk_short (k : LK) : k.up.length ≤ 1000 := by cases k <;> decide +kernel
theorem sk_short (k : SK) : k.up.length ≤ 1000 := by cases k <;> decide +kernel
theorem ok_read_message (T : TT a K mg base) (M : Ms w K mg base a) (L : SD K w mg "LONG" lgT ["ask", "taken", "not"]) (DC : Df K mg "read_change" s_read_change) (DL : Df K mg "read_clearance_words" s_read_clearance_words) (D : Df K mg "read_message_words" s_read_message_words) :
    Dn Pg w K mg base (L2.CX Pg w) 12 "read_message_words" ["words"] (spRdMsg a K) := by
  refine D.dn (fun _ _ _ _ _ _ us hl => match us, hl with | [_], _ => rfl) fun f fd F => ?_
  refine F.okX (k := 11) sc_read_message_words ?_ fun cdv A outer s H vs Q E hr h => ?_
  · rintro vs H Q E ⟨p, wl, c, rest, rfl, _⟩
    rfl
  have C := ok_read_clearance T M DC DL
  obtain ⟨ld, gL, ⟨es, n, KD⟩, hy, hno⟩ := L
  have r8 : Room 8 _ := hr.mono (by decide)
  refine ⟨_, pss_cons (ps_set (i := 1) sc_read_message_words.nd rfl (.inl rfl) (pe_mx T.cW M.choice r8 (takes_of rfl rfl rfl rfl) (pv 0) (pa_cons (pe_tup (pa_cons pe_str (pa_cons pe_str (pa_cons pe_str (pa_cons pe_str (pa_cons pe_str (pa_cons pe_str pa_nil))))))) pa_nil)))
    (pss_cons (ps_set (i := 2) sc_read_message_words.nd rfl (.inl rfl) (pe_lower (pv 1)))
    (pss_cons (ps_if (pt_cmpR (op_in_kd KD) (pv 2) (pe_gr gL) rfl) (pss_one (ps_ret (pe_tup (pa_cons (pv 2) (pa_cons (pe_dx C hr (takes_of rfl rfl rfl rfl) (pa_cons (pv 0) pa_nil)) pa_nil))))) pss_nil)
    (pss_cons (ps_set (i := 3) sc_read_message_words.nd rfl (.inl rfl) (pe_mx0 T.cW M.name r8 (takes_of rfl rfl rfl rfl) (pv 0)))
    (pss_one (ps_ret (pe_tup (pa_cons (pv 2) (pa_cons (pv 3) (pa_cons (pe_md0 T.cW M.number r8 (pv 0)) pa_nil))))))))), ?_⟩
  obtain ⟨p, wl, c, rest, rfl, hw, hc, ht, k1, k2⟩ := h
  cases c with
  | long k c =>
    refine rd_choice ["SAY", "READ", "CONFIRM", "ASK", "TAKEN", "NOT"] rfl hw (lk_kind k) (by decide) fun H1 x1 w1 => ?_
    refine ⟨_, rfl, ⟨_, rfl⟩, _, rfl, rfl, Nat.le_trans (lk_short k) (by decide), ?_⟩
    obtain ⟨t, ht2⟩ := hy _ (lk_mem k)
    refine ⟨_, rfl, _, _, rfl, rfl, by rw [lk_up]; exact ht2, _, rfl, if_t rfl ?_⟩
    refine ⟨_, rfl, _, rfl, p, wl, c, rest, rfl, w1, hc, ht, fun hn v H5 x5 w5 dv => ?_, fun h1 h2 d H5 x5 => k2 h1 h2 d H5 (x1.trans x5)⟩
    refine ⟨(by show 2 ≤ sizeLine; decide), fun u nu => k1 hn _ _ ((x1.trans x5).trans (Ext.new nu)) (w5.new nu) ?_⟩
    refine dp_newT upd_same (.cons ?_ (.cons ((Ext.new nu : X0 _ _).dp0 dv) .nil))
    rw [lk_up]
    exact .str _
  | short k f n =>
    refine rd_choice ["SAY", "READ", "CONFIRM", "ASK", "TAKEN", "NOT"] rfl hw (sk_kind k) (by decide) fun H1 x1 w1 => ?_
    refine ⟨_, rfl, ⟨_, rfl⟩, _, rfl, rfl, Nat.le_trans (sk_short k) (by decide), ?_⟩
    refine ⟨_, rfl, _, _, rfl, rfl, by rw [sk_up]; exact hno _ (sk_no k), _, rfl, if_f rfl ?_⟩
    refine rd_name rfl w1 hc.1 fun H2 x2 w2 => ?_
    refine ⟨_, rfl, _, rfl, ?_⟩
    refine rd_num rfl w2 hc.2 fun H3 x3 w3 => ⟨(by show 3 ≤ sizeLine; decide), fun u nu => ?_⟩
    refine k1 (fun z => Bool.noConfusion z.1) _ _ (((x1.trans x2).trans x3).trans (Ext.new nu)) (w3.new nu) (dp_newT upd_same (.cons ?_ (.cons (.str _) (.cons (.int _) .nil))))
    rw [sk_up]
    exact .str _
theorem take_succ {α : Type} {l : List α} {i : Nat} {x : α} (h : l[i]? = some x) : l.take (i + 1) = l.take i ++ [x] := by rw [List.take_add_one, h] <;> rfl
theorem ok_read_request (T : TT a K mg base) (M : Ms w K mg base a) (D : Df K mg "read_request_words" s_read_request_words) : Dn Pg w K mg base (L2.CX Pg w) 10 "read_request_words" ["words"] (spRdReq a K) := by
  refine D.dn (fun _ _ _ _ _ _ us hl => match us, hl with | [_], _ => rfl) fun f fd F => ?_
  refine F.okX (k := 9) sc_read_request_words ?_ fun cdv A outer s H vs Q E hr h => ?_
  · rintro vs H Q E ⟨p, wl, c, rest, rfl, _⟩
    rfl
  have r8 : Room 8 _ := hr.mono (by decide)
  have nd := sc_read_request_words.nd
  refine ⟨_, pss_cons (ps_expr (pe_mx T.cW M.choice r8 (takes_of rfl rfl rfl rfl) (pv 0) (pa_cons (pe_tup (pa_cons pe_str pa_nil)) pa_nil)))
    (pss_cons (ps_set (i := 1) nd rfl (.inl rfl) (pe_mx0 T.cW M.name r8 (takes_of rfl rfl rfl rfl) (pv 0)))
    (pss_cons (ps_expr (pe_mx T.cW M.choice r8 (takes_of rfl rfl rfl rfl) (pv 0) (pa_cons (pe_tup (pa_cons pe_str pa_nil)) pa_nil)))
    (pss_cons (ps_set (i := 2) nd rfl (.inl rfl) (pe_callTy call_tuple_of (by rfl) (T.no "tuple") (by decide +kernel) (pa_cons (pe_lc (own := [("_", 9)]) (g := gName 9) (tt := tYes) (by rfl) nd (pi_range1 (by rfl) (T.no "range") (pa_cons pe_int pa_nil)) (blkOk_by (own := [("_", 9)]) (N := ["words", "flight", "kind", "start", "goal", "level", "wanted", "tick", "late", "_"]) (sc := defScope s_read_request_words) (by decide +kernel))
        (fun _ _ _ _ _ => pg_name (i := 9) nd rfl (.inl rfl)) (fun _ _ _ _ _ => pts_nil) (fun _ _ _ _ _ => pe_md0 T.cW M.number r8 (pv 0))) pa_nil)))
    (pss_cons (ps_expr (pe_mx T.cW M.choice r8 (takes_of rfl rfl rfl rfl) (pv 0) (pa_cons (pe_tup (pa_cons pe_str pa_nil)) pa_nil)))
    (pss_cons (ps_set (i := 3) nd rfl (.inl rfl) (pe_mx0 T.cW M.name r8 (takes_of rfl rfl rfl rfl) (pv 0)))
    (pss_cons (ps_expr (pe_mx T.cW M.choice r8 (takes_of rfl rfl rfl rfl) (pv 0) (pa_cons (pe_tup (pa_cons pe_str pa_nil)) pa_nil)))
    (pss_cons (ps_set (i := 4) nd rfl (.inl rfl) (pe_mx0 T.cW M.name r8 (takes_of rfl rfl rfl rfl) (pv 0)))
    (pss_cons (ps_expr (pe_mx T.cW M.choice r8 (takes_of rfl rfl rfl rfl) (pv 0) (pa_cons (pe_tup (pa_cons pe_str pa_nil)) pa_nil)))
    (pss_cons (ps_set (i := 5) nd rfl (.inl rfl) (pe_md0 T.cW M.number r8 (pv 0)))
    (pss_cons (ps_expr (pe_mx T.cW M.choice r8 (takes_of rfl rfl rfl rfl) (pv 0) (pa_cons (pe_tup (pa_cons pe_str pa_nil)) pa_nil)))
    (pss_cons (ps_set (i := 6) nd rfl (.inl rfl) (pe_md0 T.cW M.number r8 (pv 0)))
    (pss_cons (ps_expr (pe_mx T.cW M.choice r8 (takes_of rfl rfl rfl rfl) (pv 0) (pa_cons (pe_tup (pa_cons pe_str pa_nil)) pa_nil)))
    (pss_cons (ps_set (i := 7) nd rfl (.inl rfl) (pe_md0 T.cW M.number r8 (pv 0)))
    (pss_cons (ps_expr (pe_mx T.cW M.choice r8 (takes_of rfl rfl rfl rfl) (pv 0) (pa_cons (pe_tup (pa_cons pe_str pa_nil)) pa_nil)))
    (pss_cons (ps_set (i := 8) nd rfl (.inl rfl) (pe_md0 T.cW M.number r8 (pv 0)))
    (pss_one (ps_ret (pe_tup (pa_cons (pv 1) (pa_cons (pv 2) (pa_cons (pv 3) (pa_cons (pv 4) (pa_cons (pv 5) (pa_cons (pv 6) (pa_cons (pv 7) (pa_cons (pv 8) pa_nil)))))))))))))))))))))))))), ?_⟩
  obtain ⟨p, wl, c, rest, rfl, hw, hc, ht, k1, k2⟩ := h
  refine rd_choice ["FLIGHT"] rfl hw (by simp) (by decide) fun H1 x1 w1 => ?_
  refine rd_name rfl w1 hc.fl fun H2 x2 w2 => ?_
  refine rd_choice ["KIND"] rfl w2 (by simp) (by decide) fun H3 x3 w3 => ?_
  have w3 : Rd a H3 p wl (c.kd.map sI ++ (c.tail ++ rest)) := by
    rw [← List.append_assoc]
    exact w3
  have x13 := (x1.trans x2).trans x3
  refine ⟨5, rfl, by decide, by decide, fun l nl => lc_range (lo := 0) (n := 5) (fun i H' => X1 p H3 H' ∧ Rd a H' p wl ((c.kd.map sI).drop i ++ (c.tail ++ rest)) ∧ H' l = some (.lst ((c.kd.take i).map V.int))) ⟨Ext.new nl, w3.new nl, upd_same⟩ (fun i H' hi hP => ?_) (fun H' hP => ?_)⟩
  · obtain ⟨x4, w4, hl⟩ := hP
    have hk : i < c.kd.length := by rw [hc.kn]; exact hi
    have e : (c.kd.map sI).drop i = sI c.kd[i] :: (c.kd.map sI).drop (i + 1) := by
      rw [List.drop_eq_getElem_cons (by rw [List.length_map]; exact hk), List.getElem_map]
    rw [e] at w4
    refine ⟨rfl, ?_⟩
    refine rd_num rfl w4 (hc.kd _ (List.getElem_mem hk)) fun H5 x5 w5 => ?_
    have hl5 : H5 l = some (.lst ((c.kd.take i).map V.int)) := x5.seq w4.ns hl rfl
    refine ⟨_, hl5, small1000 (by rw [List.length_map, List.length_take]; omega), Ext.own (x4.trans x5) nl hl5 (fun _ z => by cases z), w5.own (w3.apart nl) hl5, ?_⟩
    rw [upd_same, take_succ (List.getElem?_eq_getElem hk), List.map_append]
    rfl
  · obtain ⟨x4, w4, hl⟩ := hP
    have e5 : c.kd.take 5 = c.kd := List.take_of_length_le (by rw [hc.kn]; exact Nat.le_refl _)
    have e6 : (c.kd.map sI).drop 5 = [] := List.drop_eq_nil_iff.mpr (by rw [List.length_map, hc.kn]; exact Nat.le_refl _)
    rw [e5] at hl
    rw [e6] at w4
    refine ⟨l, _, rfl, .inl ⟨SqL.of hl, fun t nt => ?_⟩⟩
    have dk : Dp K (upd H' t (.tup (c.kd.map V.int))) (.ref t) (.tuple (c.kd.map .int)) := dp_newT upd_same (ints_dpa _)
    have x4' := x13.trans (x4.trans (Ext.new nt : X1 p _ (upd H' t (.tup (c.kd.map V.int)))))
    have w5 : Rd a (upd H' t (.tup (c.kd.map V.int))) p wl (c.tail ++ rest) := w4.new nt
    refine rd_choice ["FROM"] rfl w5 (by simp) (by decide) fun H6 x6 w6 => ?_
    refine rd_name rfl w6 hc.st fun H7 x7 w7 => ?_
    refine rd_choice ["TO"] rfl w7 (by simp) (by decide) fun H8 x8 w8 => ?_
    refine rd_name rfl w8 hc.go fun H9 x9 w9 => ?_
    refine rd_choice ["AT"] rfl w9 (by simp) (by decide) fun H10 x10 w10 => ?_
    refine rd_num rfl w10 hc.lv fun H11 x11 w11 => ?_
    refine rd_choice ["WANTS"] rfl w11 (by simp) (by decide) fun H12 x12 w12 => ?_
    refine rd_num rfl w12 hc.wt fun H13 x13 w13 => ?_
    refine rd_choice ["TICK"] rfl w13 (by simp) (by decide) fun H14 x14 w14 => ?_
    refine rd_num rfl w14 hc.tk fun H15 x15 w15 => ?_
    refine rd_choice ["LATE"] rfl w15 (by simp) (by decide) fun H16 x16 w16 => ?_
    refine rd_num rfl w16 hc.lt fun H17 x17 w17 => ?_
    have xx := (((((((((((x6.trans x7).trans x8).trans x9).trans x10).trans x11).trans x12).trans x13).trans x14).trans x15).trans x16).trans x17)
    have dk2 := xx.dp w5.ns dk
    refine ⟨_, rfl, _, rfl, _, rfl, _, rfl, _, rfl, _, rfl, _, rfl, _, rfl, (by show 8 ≤ sizeLine; decide), fun u nu => ?_⟩
    refine k1 (fun z => Bool.noConfusion z.1) _ _ ((x4'.trans xx).trans (Ext.new nu)) (w17.new nu) ?_
    exact dp_newT upd_same (.cons (.str _) (.cons ((Ext.new nu : X0 _ _).dp0 dk2) (.cons (.str _) (.cons (.str _) (.cons (.int _) (.cons (.int _) (.cons (.int _) (.cons (.int _) .nil))))))))
end
end K31
/-! K31, defs 6: the readers of calls, but for advance. -/
namespace K31
open PySem PySem.Spec PyProof.Rows L2 GxR
open PySem.W (Frag)
open TL (tl)
/-! ### data without lists -/
mutual
def nlB : PyData → Bool
  | .list _ => false
  | .tuple ds => nlBs ds
  | _ => true
def nlBs : List PyData → Bool
  | [] => true
  | d :: r => nlB d && nlBs r
end
def noTup : HO → Bool
  | .tup _ => false
  | .frz _ _ => false
  | _ => true
theorem Ext.sqF {M : Addr → Prop} {K : Frag} {H H1 : Hp} (a : Ext M H H1) (n : ∀ b, M b → ∃ o, H b = some o ∧ noTup o = true) {b : Addr} {xs : List V} (h : SqT K H b xs) : SqT K H1 b xs := by
  have nm : ∀ {o : HO}, H b = some o → noTup o = false → ¬ M b := fun {o} e q m => by
    obtain ⟨u, e2, q2⟩ := n b m
    rw [e] at e2
    rw [← Option.some.inj e2, q] at q2
    cases q2
  rcases h with (h | ⟨o, h⟩) | h
  · exact .inl (.inl (a.keep b _ h (nm h rfl) fun _ z => by cases z))
  · exact .inl (.inr ⟨o, a.keep b _ h (nm h rfl) fun _ z => by cases z⟩)
  · exact .inr h
mutual
theorem Ext.dpF {M : Addr → Prop} {K : Frag} {H H1 : Hp} (a : Ext M H H1) (n : ∀ b, M b → ∃ o, H b = some o ∧ noTup o = true) : ∀ {v : V} {d : PyData}, nlB d = true → Dp K H v d → Dp K H1 v d
  | _, _, _, .non => .non
  | _, _, _, .bl b => .bl b
  | _, _, _, .int i => .int i
  | _, _, _, .str x => .str x
  | _, _, h, .lst _ _ => by cases h
  | _, _, h, .tup q r => .tup (a.sqF n q) (a.dpsF n h r)
theorem Ext.dpsF {M : Addr → Prop} {K : Frag} {H H1 : Hp} (a : Ext M H H1) (n : ∀ b, M b → ∃ o, H b = some o ∧ noTup o = true) : ∀ {vs : List V} {ds : List PyData}, nlBs ds = true → DpAll K H vs ds → DpAll K H1 vs ds
  | _, _, _, .nil => .nil
  | _, _, h, .cons q r => by
    have h2 := h
    unfold nlBs at h2
    rw [Bool.and_eq_true] at h2
    exact .cons (a.dpF n h2.1 q) (a.dpsF n h2.2 r)
end
theorem nl_strs : ∀ ns : List Str, nlBs (ns.map .str) = true
  | [] => rfl
  | _ :: r => by
    show (true && nlBs (r.map .str)) = true
    rw [nl_strs r]
    rfl
theorem nl_ints : ∀ ns : List Int, nlBs (ns.map .int) = true
  | [] => rfl
  | _ :: r => by
    show (true && nlBs (r.map .int)) = true
    rw [nl_ints r]
    rfl
theorem nl_map {α : Type} {f : α → PyData} (h : ∀ x, nlB (f x) = true) : ∀ l : List α, nlBs (l.map f) = true
  | [] => rfl
  | x :: r => by
    show (nlB (f x) && nlBs (r.map f)) = true
    rw [h x, nl_map h r]
    rfl
theorem nl_chg (c : Chg) : nlB c.d = true := by
  cases c with
  | lvl n => rfl
  | spd n => rfl
  | rt ns =>
    show (true && (nlBs (ns.map .str) && true)) = true
    rw [nl_strs]
    rfl
theorem nl_req (r : Req) : nlB r.d = true := by
  show (true && (nlBs (r.kd.map .int) && _)) = true
  rw [nl_ints]
  rfl
theorem nl_plot (p : Int × Int × Int) : nlB (plotD p) = true := rfl
theorem nl_clr (c : Clr) : nlB c.d = true := by
  show (true && (true && (true && (nlB c.ch.d && true)))) = true
  rw [nl_chg]
  rfl
theorem nl_msg (m : Msg) : nlB m.d = true := by
  cases m with
  | long k c =>
    show (true && (nlB c.d && true)) = true
    rw [nl_clr]
    rfl
  | short k f n => rfl
/-- the list at l alone is changed -/
theorem lst_tup {H : Hp} {l : Addr} {xs : List V} (h : H l = some (.lst xs)) : ∀ b, b = l → ∃ o, H b = some o ∧ noTup o = true := fun b e => ⟨.lst xs, by rw [e]; exact h, rfl⟩
theorem lst_ext {H : Hp} {l : Addr} {xs : List V} {o : HO} (h : H l = some (.lst xs)) : Ext (fun b => b = l) H (upd H l o) := Ext.put h (fun _ z => by cases z) rfl
theorem Ext.ownL {M : Addr → Prop} {H H1 : Hp} {p : Addr} {o : HO} {xs : List V} (a : Ext M H H1) (hn : H p = none) (h : H1 p = some (.lst xs)) : Ext M H (upd H1 p o) := a.own hn h fun _ z => by cases z
/-- the value v of the call stays, where a list that stood at H is changed -/
def Kp (K : Frag) (H H' : Hp) (v : V) (d : PyData) : Prop := Dp K H' v d ∧ ∀ l xs ys, H l = some (.lst xs) → Dp K (upd H' l (.lst ys)) v d
theorem kp_nl {K : Frag} {M : Addr → Prop} {H H' : Hp} {v : V} {d : PyData} (h : Dp K H' v d) (n : nlB d = true) (x : Ext M H H') (hM : ∀ l xs, H l = some (.lst xs) → ¬ M l) : Kp K H H' v d :=
  ⟨h, fun l xs ys e => by
    have e2 := x.keep l _ e (hM l xs e) fun _ z => by cases z
    exact (lst_ext e2 (o := .lst ys)).dpF (lst_tup e2) n h⟩
/-! ### parts with a stroke between -/
def slT : List (List Str) → List Str
  | [] => []
  | v :: r => ("/" : Str) :: (v ++ slT r)
theorem slash_cons (w : List Str) : ∀ r : List (List Str), slash (w :: r) = w ++ slT r
  | [] => by
    show w = w ++ []
    rw [List.append_nil]
  | v :: r => by
    show w ++ (("/" : Str) :: slash (v :: r)) = w ++ (("/" : Str) :: (v ++ slT r))
    rw [slash_cons v r]
theorem key_enter {c : Cal} (h : c.key = "enter") : ∃ rs, c = .enter rs := by
  cases c <;> first | exact ⟨_, rfl⟩ | exact absurd h (by simp only [Cal.key]; decide +kernel)
theorem key_say {c : Cal} (h : c.key = "say") : ∃ b f ch t, c = .say b f ch t := by
  cases c <;> first | exact ⟨_, _, _, _, rfl⟩ | exact absurd h (by simp only [Cal.key]; decide +kernel)
theorem key_solve {c : Cal} (h : c.key = "solve") : ∃ b f cs t, c = .solve b f cs t := by
  cases c <;> first | exact ⟨_, _, _, _, rfl⟩ | exact absurd h (by simp only [Cal.key]; decide +kernel)
theorem key_hear {c : Cal} (h : c.key = "hear") : ∃ m, c = .hear m := by
  cases c <;> first | exact ⟨_, rfl⟩ | exact absurd h (by simp only [Cal.key]; decide +kernel)
theorem key_give {c : Cal} (h : c.key = "give") : ∃ x y z, c = .give x y z := by
  cases c <;> first | exact ⟨_, _, _, rfl⟩ | exact absurd h (by simp only [Cal.key]; decide +kernel)
theorem key_pass_on {c : Cal} (h : c.key = "pass_on") : ∃ f k n s r, c = .pass f k n s r := by
  cases c <;> first | exact ⟨_, _, _, _, _, rfl⟩ | exact absurd h (by simp only [Cal.key]; decide +kernel)
theorem key_advance {c : Cal} (h : c.key = "advance") : ∃ ps, c = .adv ps := by
  cases c <;> first | exact ⟨_, rfl⟩ | exact absurd h (by simp only [Cal.key]; decide +kernel)
/-- the promise of a call's reader -/
def Rest (r : List Str) : Prop := r = [] ∨ r = [Str.empty]
def spRdCal (a : Ad) (K : Frag) (key : Str) : Sp := fun vs H Q E => ∃ (p wl : Addr) (c : Cal) (rest : List Str), vs = [.ref p] ∧ Rd a H p wl (c.args ++ rest) ∧ (OkCal c ∧ c.key = key) ∧ Rest rest ∧
  (¬ (c.stops = true ∧ rest = [Str.empty]) → ∀ v H', X1 p H H' → Rd a H' p wl rest → Kp K H H' v c.d → Q v H') ∧ (c.stops = true → rest = [Str.empty] → ∀ d H', X1 p H H' → E (.ref a.ct) (some d) H')
theorem rd_lst {a : Ad} {H : Hp} {p wl l : Addr} {ws : List Str} {xs : List V} (h : Rd a H p wl ws) (e : H l = some (.lst xs)) : ¬ l = p := fun z => by
  obtain ⟨dx, all, j, g1, _⟩ := h.wd
  rw [z, g1] at e
  cases e
theorem rd_rest {a : Ad} {H : Hp} {p wl : Addr} {w0 : Str} {rest : List Str} (t : Rest rest) : Tail rest := t.elim .inl fun z => .inr (.inl z)
section
variable {a : Ad} {w : World} {K : Frag} {mg : Str → Option Value} {base : Heap}
theorem ok_read_enter (T : TT a K mg base) (M : Ms w K mg base a) (DR : Df K mg "read_request_words" s_read_request_words) (D : Df K mg "read_enter" s_read_enter) : Dn Pg w K mg base (L2.CX Pg w) 15 "read_enter" ["words"] (spRdCal a K "enter") := by
  refine D.dn (fun _ _ _ _ _ _ us hl => match us, hl with | [_], _ => rfl) fun f fd F => ?_
  refine F.okX (k := 14) sc_read_enter ?_ fun cdv A outer s H vs Q E hr h => ?_
  · rintro vs H Q E ⟨p, wl, c, rest, rfl, _⟩
    rfl
  have R := ok_read_request T M DR
  have r8 : Room 8 _ := hr.mono (by decide)
  have rR : Room 10 _ := hr.mono (by decide)
  obtain ⟨tS, gS⟩ := T.sEP
  refine ⟨_, pss_cons (ps_set (i := 1) sc_read_enter.nd rfl (.inl rfl) (pe_lst (pa_cons (pe_dx R rR (takes_of rfl rfl rfl rfl) (pa_cons (pv 0) pa_nil)) pa_nil)))
    (pss_cons (ps_while (passes_of rfl) (pt_cmpR op_gt (pe_md0 T.cW M.left (hr.mono (by decide)) (pv 0)) pe_int (nomark _))
      (pss_cons (ps_expr (pe_mx T.cW M.choice r8 (takes_of rfl rfl rfl rfl) (pv 0) (pa_cons (pe_tup (pa_cons (pe_gs gS) pa_nil)) pa_nil)))
      (pss_one (ps_expr (pe_bm PySem.F.plainAttrs_list PySem.F.slot_list_append PySem.F.type_list_append mt_append (pv 1) (pa_cons (pe_dx R rR (takes_of rfl rfl rfl rfl) (pa_cons (pv 0) pa_nil)) pa_nil))))))
    (pss_one (ps_ret (pe_tup (pa_cons pe_str (pa_cons (pv 1) pa_nil)))))), ?_⟩
  obtain ⟨p, wl, c, rest, rfl, hw, ⟨hc, hk⟩, ht, k1, k2⟩ := h
  obtain ⟨rs, rfl⟩ := key_enter hk
  obtain ⟨l1, l2, hn⟩ := hc
  obtain ⟨r1, rs, rfl⟩ : ∃ r1 r, rs = r1 :: r := match rs, l1 with
    | r1 :: r, _ => ⟨r1, r, rfl⟩
  have hw1 : Rd a H p wl (r1.ws ++ (slT (rs.map Req.ws) ++ rest)) := by
    rw [← List.append_assoc, ← slash_cons]
    exact hw
  refine ⟨_, rfl, p, wl, r1, _, rfl, hw1, hn r1 (List.mem_cons_self ..), trivial, fun _ v1 H1 x1 w1 d1 => ?_, fun z => Bool.noConfusion z⟩
  refine ⟨(by show 1 ≤ sizeLine; decide), fun l nl => ?_⟩
  have ap := w1.apart nl
  refine ⟨fun m σ' H' => ∃ done todo vs, done ++ todo = r1 :: rs ∧ m = todo.length ∧ σ' = [some (.ref p), some (.ref l)] ∧ X1 p H1 H' ∧ Rd a H' p wl (slT (todo.map Req.ws) ++ rest) ∧ H' l = some (.lst vs) ∧ DpAll K H' vs (done.map Req.d),
    ⟨_, [r1], rs, [v1], rfl, rfl, rfl, Ext.new nl, w1.new nl, upd_same, .cons ((Ext.new nl : X0 _ _).dp0 d1) .nil⟩, ?_⟩
  rintro m σ' H' ⟨done, todo, vs, hd, rfl, rfl, x4, w4, hl, hdp⟩
  have len := congrArg List.length hd
  rw [List.length_append, List.length_cons] at len
  rw [List.length_cons] at l2
  cases todo with
  | cons r todo =>
    refine rd_left rfl w4 ⟨_, _, rfl, rfl, _, rfl, if_t (decide_eq_true (by show (0 : Int) < ((slT ((r :: todo).map Req.ws) ++ rest).length : Int); rw [List.length_append]; show (0 : Int) < ((r.ws ++ slT (todo.map Req.ws)).length + 1 + rest.length : Nat); omega)) ?_⟩
    refine ⟨fun σ' H' => ∃ m', m' < (r :: todo).length ∧ ∃ done todo vs, done ++ todo = r1 :: rs ∧ m' = todo.length ∧ σ' = [some (.ref p), some (.ref l)] ∧ X1 p H1 H' ∧ Rd a H' p wl (slT (todo.map Req.ws) ++ rest) ∧ H' l = some (.lst vs) ∧ DpAll K H' vs (done.map Req.d), fun _ _ z => z, ?_⟩
    have w4' : Rd a H' p wl (("/" : Str) :: (r.ws ++ (slT (todo.map Req.ws) ++ rest))) := by
      rw [← List.append_assoc]
      exact w4
    refine rd_choice ["/"] rfl w4' (by simp) (by decide) fun H5 x5 w5 => ?_
    have hl5 : H5 l = some (.lst vs) := x5.seq w4.ns hl rfl
    refine ⟨_, rfl, .inl ⟨rfl, _, SqL.of hl5⟩, _, rfl, p, wl, r, _, rfl, w5, hn r (by rw [← hd]; simp), trivial, fun _ v6 H6 x6 w6 d6 => ?_, fun z => Bool.noConfusion z⟩
    have hl6 : H6 l = some (.lst vs) := x6.seq w5.ns hl5 rfl
    have lv : vs.length = done.length := by rw [dpa_len hdp, List.length_map]
    refine ⟨l, _, _, rfl, rfl, hl6, small1000 (by rw [lv]; rw [List.length_cons] at len; omega), ?_⟩
    refine ⟨todo.length, by rw [List.length_cons]; omega, done ++ [r], todo, vs ++ [v6], by rw [List.append_assoc]; exact hd, rfl, rfl, Ext.ownL ((x4.trans x5).trans x6) nl hl6, w6.own ap hl6, upd_same, ?_⟩
    rw [List.map_append]
    exact (lst_ext hl6).dpsF (lst_tup hl6) (by rw [← List.map_append]; exact nl_map nl_req _) (dpa_app ((x5.trans x6).dpAll w4.ns hdp) (.cons d6 .nil))
  | nil =>
    rw [List.append_nil] at hd
    subst hd
    rcases ht with rfl | rfl
    · refine rd_left rfl w4 ⟨_, _, rfl, rfl, _, rfl, if_f rfl ?_⟩
      refine ⟨_, rfl, (by show 2 ≤ sizeLine; decide), fun t nt => ?_⟩
      have lt := ne_of_none hl nt
      have d9 : ∀ G : Hp, G t = some (.tup [.str "enter", .ref l]) → G l = some (.lst vs) → DpAll K G vs ((r1 :: rs).map Req.d) → Dp K G (.ref t) (Cal.enter (r1 :: rs)).d := fun G g1 g2 g3 =>
        dp_newT g1 (.cons (.str _) (.cons (dp_newL g2 g3) .nil))
      have xn : X1 p H' (upd H' t (.tup [.str "enter", .ref l])) := Ext.new nt
      have dn : DpAll K (upd H' t (.tup [.str "enter", .ref l])) vs ((r1 :: rs).map Req.d) := (Ext.new nt : X0 _ _).dpAll0 hdp
      have xx := (x1.trans x4).trans xn
      refine k1 (fun z => by cases z.2) _ _ xx (w4.new nt) ⟨d9 _ upd_same (by rw [upd_ne lt]; exact hl) dn, fun l2 xs ys e => ?_⟩
      have q1 : H l = none := x1.free l nl
      have ne2 : l ≠ l2 := fun z => by
        rw [← z, q1] at e
        cases e
      have e9 := xx.seq hw.ns e rfl
      have nt2 : t ≠ l2 := fun z => by
        have q : H t = none := (x1.trans x4).free t nt
        rw [z, e] at q
        cases q
      refine d9 _ (by rw [upd_ne nt2]; exact upd_same) (by rw [upd_ne ne2, upd_ne lt]; exact hl) ((lst_ext e9).dpsF (lst_tup e9) (nl_map nl_req _) dn)
    · refine rd_left rfl w4 ⟨_, _, rfl, rfl, _, rfl, if_t rfl ?_⟩
      refine ⟨fun _ _ => False, fun _ _ z => z.elim, ?_⟩
      exact rd_choiceX ["/"] rfl w4 (by decide +kernel) (by decide) fun d H5 x5 => k2 rfl rfl d H5 ((x1.trans x4).trans x5)
end
end K31
/-! K31, defs 7: read_say, read_solve, read_hear, read_give, read_pass. -/
namespace K31
open PySem PySem.Spec PyProof.Rows L2 GxR
open PySem.W (Frag)
open TL (tl)
section
variable {X : Cx} {k : Nat} {m : Str} {sp : Sp} {C : Addr} {o : Expr} {ta : TE} {pos apos : Pos} {ps : List Str}
/-- a method that may raise, where it does not -/
theorem pe_ml0 {pl : Sem Bool} (c : Cls X.K C) (D : Mn X.prog X.w X.K X.mg X.base (L2.CX X.prog X.w) k C m ps sp) (hr : Room k X.A) (ho : PE X o ta)
    (ht : eval (.Call (.Attribute o m apos) [] [] pos) X.env = (do
      let ov ← eval o X.env
      standAt apos.atName
      let (f, first) ← holding [ov] (getMethod ov m pl)
      callWith pos f first (backTo pos (starEach [] X.env)) (backToKw pos (keywordEach [] X.env))) := by rfl) :
    PE X (.Call (.Attribute o m apos) [] [] pos) (tMeth C m sp [] E0 ta tNil) := by
  obtain ⟨f, fd, hm, b, F⟩ := D
  exact pe_meth0 ho c hm F hr b .nil passL ht
end
section
variable {a : Ad} {w : World} {K : Frag} {mg : Str → Option Value} {base : Heap}
theorem ok_read_say (T : TT a K mg base) (M : Ms w K mg base a) (DC : Df K mg "read_change" s_read_change) (D : Df K mg "read_say" s_read_say) : Dn Pg w K mg base (L2.CX Pg w) 15 "read_say" ["words"] (spRdCal a K "say") := by
  refine D.dn (fun _ _ _ _ _ _ us hl => match us, hl with | [_], _ => rfl) fun f fd F => ?_
  refine F.okX (k := 14) sc_read_say ?_ fun cdv A outer s H vs Q E hr h => ?_
  · rintro vs H Q E ⟨p, wl, c, rest, rfl, _⟩
    rfl
  have C := ok_read_change T M DC
  have r8 : Room 8 _ := hr.mono (by decide)
  have nd := sc_read_say.nd
  refine ⟨_, pss_cons (ps_set (i := 1) nd rfl (.inl rfl) (pe_mx0 T.cW M.name r8 (takes_of rfl rfl rfl rfl) (pv 0)))
    (pss_cons (ps_set (i := 2) nd rfl (.inl rfl) (pe_mx0 T.cW M.name r8 (takes_of rfl rfl rfl rfl) (pv 0)))
    (pss_cons (ps_set (i := 3) nd rfl (.inl rfl) (pe_md0 T.cW M.number r8 (pv 0)))
    (pss_one (ps_ret (pe_tup (pa_cons pe_str (pa_cons (pv 1) (pa_cons (pv 2) (pa_cons (pe_dx C (hr.mono (by decide)) (takes_of rfl rfl rfl rfl) (pa_cons (pv 0) pa_nil)) (pa_cons (pv 3) pa_nil)))))))))), ?_⟩
  obtain ⟨p, wl, c, rest, rfl, hw, ⟨hc, hk⟩, ht, k1, k2⟩ := h
  obtain ⟨b, f, ch, t, rfl⟩ := key_say hk
  obtain ⟨c1, c2, c3, c4⟩ := hc
  refine rd_name rfl hw c1 fun H1 x1 w1 => ?_
  refine rd_name rfl w1 c2 fun H2 x2 w2 => ?_
  refine rd_num rfl w2 c4 fun H3 x3 w3 => ?_
  have x13 := (x1.trans x2).trans x3
  refine ⟨_, rfl, _, rfl, _, rfl, p, wl, rfl, .inl ⟨ch, rest, w3, c3, rd_rest (a := a) (H := H) (p := p) (wl := wl) (w0 := b) ht, fun hn v H5 x5 w5 dv => ?_, fun h1 h2 d H5 x5 => k2 h1 h2 d H5 (x13.trans x5)⟩⟩
  refine ⟨_, rfl, (by show 5 ≤ sizeLine; decide), fun u nu => ?_⟩
  have xx := (x13.trans x5).trans (Ext.new nu : X1 p _ (upd H5 u (.tup [.str "say", .str b, .str f, v, .int t])))
  refine k1 hn _ _ xx (w5.new nu) (kp_nl (dp_newT upd_same (.cons (.str _) (.cons (.str _) (.cons (.str _) (.cons ((Ext.new nu : X0 _ _).dp0 dv) (.cons (.int _) .nil)))))) ?_ xx fun l xs e => rd_lst hw e)
  show (true && (true && (true && (nlB ch.d && _)))) = true
  rw [nl_chg]
  rfl
theorem ok_read_hear (T : TT a K mg base) (M : Ms w K mg base a) (L : SD K w mg "LONG" lgT ["ask", "taken", "not"]) (DC : Df K mg "read_change" s_read_change) (DL : Df K mg "read_clearance_words" s_read_clearance_words) (DM : Df K mg "read_message_words" s_read_message_words) (D : Df K mg "read_hear" s_read_hear) :
    Dn Pg w K mg base (L2.CX Pg w) 15 "read_hear" ["words"] (spRdCal a K "hear") := by
  refine D.dn (fun _ _ _ _ _ _ us hl => match us, hl with | [_], _ => rfl) fun f fd F => ?_
  refine F.okX (k := 14) sc_read_hear ?_ fun cdv A outer s H vs Q E hr h => ?_
  · rintro vs H Q E ⟨p, wl, c, rest, rfl, _⟩
    rfl
  have C := ok_read_message T M L DC DL DM
  refine ⟨_, pss_one (ps_ret (pe_tup (pa_cons pe_str (pa_cons (pe_dx C (hr.mono (by decide)) (takes_of rfl rfl rfl rfl) (pa_cons (pv 0) pa_nil)) pa_nil)))), ?_⟩
  obtain ⟨p, wl, c, rest, rfl, hw, ⟨hc, hk⟩, ht, k1, k2⟩ := h
  obtain ⟨m, rfl⟩ := key_hear hk
  refine ⟨_, rfl, p, wl, m, rest, rfl, hw, hc, rd_rest (a := a) (H := H) (p := p) (wl := wl) (w0 := Str.empty) ht, fun hn v H5 x5 w5 dv => ?_, fun h1 h2 d H5 x5 => k2 h1 h2 d H5 x5⟩
  refine ⟨(by show 2 ≤ sizeLine; decide), fun u nu => ?_⟩
  have xx := x5.trans (Ext.new nu : X1 p _ (upd H5 u (.tup [.str "hear", v])))
  refine k1 hn _ _ xx (w5.new nu) (kp_nl (dp_newT upd_same (.cons (.str _) (.cons ((Ext.new nu : X0 _ _).dp0 dv) .nil))) ?_ xx fun l xs e => rd_lst hw e)
  show (true && (nlB m.d && true)) = true
  rw [nl_msg]
  rfl
theorem rd_nameL {σ : L2.St} {H : Hp} {Q : VK} {p wl : Addr} {i : Nat} {ws : List Str} {w0 : Str} (hi : σ[i]? = some (some (.ref p))) (h : Rd a H p wl (w0 :: ws)) (hn : OkName w0) (k : ∀ H', X1 p H H' → Rd a H' p wl ws → Q (.str w0) H') :
    tMeth a.cw "name" (spWName a) [] E0 (tVar i) tNil σ H Q := by
  obtain ⟨dx, j, h1⟩ := wd_ins h.wd
  exact ⟨_, hi, p, dx, _, rfl, h1, wF_no _ _, p, wl, w0, ws, rfl, h.tb, h.wd, .inl ⟨hn, fun H' x hw => k H' x ⟨hw, x.tb h.tb⟩⟩⟩
theorem ok_read_give (T : TT a K mg base) (M : Ms w K mg base a) (D : Df K mg "read_give" s_read_give) : Dn Pg w K mg base (L2.CX Pg w) 15 "read_give" ["words"] (spRdCal a K "give") := by
  refine D.dn (fun _ _ _ _ _ _ us hl => match us, hl with | [_], _ => rfl) fun f fd F => ?_
  refine F.okX (k := 14) sc_read_give ?_ fun cdv A outer s H vs Q E hr h => ?_
  · rintro vs H Q E ⟨p, wl, c, rest, rfl, _⟩
    rfl
  have r8 : Room 8 _ := hr.mono (by decide)
  have nd := sc_read_give.nd
  refine ⟨_, pss_cons (ps_setLc (i := 1) (own := [("_", 2)]) (g := gName 2) (tt := tYes) (by rfl) nd rfl rfl (sw_true rfl rfl rfl (by decide +kernel)) (pi_range1 (by rfl) (T.no "range") (pa_cons pe_int pa_nil)) (blkOk_by (own := [("_", 2)]) (N := ["words", "names", "_"]) (sc := defScope s_read_give) (by decide +kernel))
      (fun _ _ _ _ _ => pg_name (i := 2) nd rfl (.inl rfl)) (fun _ _ _ _ _ => pts_nil) (fun _ _ _ _ _ => pe_ml0 T.cW M.name r8 (pv 0)))
    (pss_one (ps_ret (pe_tup (pa_cons pe_str (StX.pa_star (pv 1) pa_nil))))), ?_⟩
  obtain ⟨p, wl, c, rest, rfl, hw, ⟨hc, hk⟩, ht, k1, k2⟩ := h
  obtain ⟨n1, n2, n3, rfl⟩ := key_give hk
  obtain ⟨c1, c2, c3⟩ := hc
  have all3 : ∀ x ∈ [n1, n2, n3], OkName x := all_cons c1 (all_cons c2 (all_cons c3 all_nil))
  refine ⟨3, rfl, by decide, by decide, fun l nl => lc_range (lo := 0) (n := 3) (fun i H' => X1 p H H' ∧ Rd a H' p wl (([n1, n2, n3] : List Str).drop i ++ rest) ∧ H' l = some (.lst ((([n1, n2, n3] : List Str).take i).map V.str))) ⟨Ext.new nl, hw.new nl, upd_same⟩ (fun i H' hi hP => ?_) (fun H' hP => ?_)⟩
  · obtain ⟨x4, w4, hl⟩ := hP
    have hk : i < ([n1, n2, n3] : List Str).length := hi
    rw [List.drop_eq_getElem_cons hk] at w4
    refine ⟨rfl, ?_⟩
    refine rd_nameL rfl w4 (all3 _ (List.getElem_mem hk)) fun H5 x5 w5 => ?_
    have hl5 : H5 l = some (.lst ((([n1, n2, n3] : List Str).take i).map V.str)) := x5.seq w4.ns hl rfl
    refine ⟨_, hl5, small1000 (by rw [List.length_map, List.length_take]; omega), Ext.ownL (x4.trans x5) nl hl5, w5.own (hw.apart nl) hl5, ?_⟩
    rw [upd_same, take_succ (List.getElem?_eq_getElem hk), List.map_append]
    rfl
  · obtain ⟨x4, w4, hl⟩ := hP
    refine ⟨_, rfl, l, _, rfl, .inr (SqL.of hl), (by show 4 ≤ sizeLine; decide), fun u nu => ?_⟩
    have xx := x4.trans (Ext.new nu : X1 p _ (upd H' u (.tup [.str "give", .str n1, .str n2, .str n3])))
    exact k1 (fun z => Bool.noConfusion z.1) _ _ xx (w4.new nu) (kp_nl (dp_newT upd_same (.cons (.str _) (.cons (.str _) (.cons (.str _) (.cons (.str _) .nil))))) rfl xx fun l xs e => rd_lst hw e)
theorem ok_read_pass (T : TT a K mg base) (M : Ms w K mg base a) (D : Df K mg "read_pass" s_read_pass) : Dn Pg w K mg base (L2.CX Pg w) 15 "read_pass" ["words"] (spRdCal a K "pass_on") := by
  refine D.dn (fun _ _ _ _ _ _ us hl => match us, hl with | [_], _ => rfl) fun f fd F => ?_
  refine F.okX (k := 14) sc_read_pass ?_ fun cdv A outer s H vs Q E hr h => ?_
  · rintro vs H Q E ⟨p, wl, c, rest, rfl, _⟩
    rfl
  have r8 : Room 8 _ := hr.mono (by decide)
  have nd := sc_read_pass.nd
  refine ⟨_, pss_cons (ps_set (i := 1) nd rfl (.inl rfl) (pe_mx0 T.cW M.name r8 (takes_of rfl rfl rfl rfl) (pv 0)))
    (pss_cons (ps_set (i := 2) nd rfl (.inl rfl) (pe_lower (pe_mx T.cW M.choice r8 (takes_of rfl rfl rfl rfl) (pv 0) (pa_cons (pe_tup (pa_cons pe_str (pa_cons pe_str pa_nil))) pa_nil))))
    (pss_cons (ps_set (i := 3) nd rfl (.inl rfl) (pe_md0 T.cW M.number r8 (pv 0)))
    (pss_cons (ps_set (i := 4) nd rfl (.inl rfl) (pe_mx0 T.cW M.name r8 (takes_of rfl rfl rfl rfl) (pv 0)))
    (pss_one (ps_ret (pe_tup (pa_cons pe_str (pa_cons (pv 1) (pa_cons (pe_tup (pa_cons (pv 2) (pa_cons (pv 3) (pa_cons (pv 4) (pa_cons (pe_mx0 T.cW M.name r8 (takes_of rfl rfl rfl rfl) (pv 0)) pa_nil))))) pa_nil))))))))), ?_⟩
  obtain ⟨p, wl, c, rest, rfl, hw, ⟨hc, hk⟩, ht, k1, k2⟩ := h
  obtain ⟨f, k, n, s', r, rfl⟩ := key_pass_on hk
  obtain ⟨c1, c2, c3, c4⟩ := hc
  refine rd_name rfl hw c1 fun H1 x1 w1 => ?_
  refine rd_choice ["GIVE", "TOOK"] rfl w1 (by cases k <;> simp) (by decide) fun H2 x2 w2 => ?_
  have e1 : Txt.lower (if k then ("TOOK" : Str) else "GIVE") = (if k then ("took" : Str) else "give") := by cases k <;> decide +kernel
  refine ⟨⟨_, rfl⟩, _, rfl, rfl, (by cases k <;> decide +kernel), ?_⟩
  refine rd_num rfl w2 c2 fun H3 x3 w3 => ?_
  refine rd_name rfl w3 c3 fun H4 x4 w4 => ?_
  refine ⟨_, rfl, _, rfl, _, rfl, _, rfl, ?_⟩
  refine rd_name rfl w4 c4 fun H5 x5 w5 => ?_
  refine ⟨(by show 4 ≤ sizeLine; decide), fun t nt => ⟨(by show 3 ≤ sizeLine; decide), fun u nu => ?_⟩⟩
  have x15 := (((x1.trans x2).trans x3).trans x4).trans x5
  rw [e1] at nu ⊢
  have xx := (x15.trans (Ext.new nt : X1 p _ (upd H5 t (.tup [.str (if k then "took" else "give"), .int n, .str s', .str r])))).trans (Ext.new nu : X1 p _ (upd _ u (.tup [.str "pass_on", .str f, .ref t])))
  refine k1 (fun z => Bool.noConfusion z.1) _ _ xx ((w5.new nt).new nu) (kp_nl (dp_newT upd_same (.cons (.str _) (.cons (.str _) (.cons ?_ .nil)))) rfl xx fun l xs e => rd_lst hw e)
  exact (Ext.new nu : X0 _ _).dp0 (dp_newT upd_same (.cons (.str _) (.cons (.int _) (.cons (.str _) (.cons (.str _) .nil)))))
end
end K31
/-! K31, defs 8: read_solve. -/
namespace K31
open PySem PySem.Spec PyProof.Rows L2 GxR
open PySem.W (Frag)
open TL (tl)
def remW (done todo : List Chg) : List Str := match done with
  | [] => slash (todo.map Chg.ws)
  | _ :: _ => slT (todo.map Chg.ws)
/-- a call with a new list of list-free data -/
theorem kp_call {K : Frag} {M : Addr → Prop} {H H' : Hp} {l t : Addr} {vs pre post : List V} {ds dpre dpost : List PyData} (hl : H' l = some (.lst vs)) (hd : DpAll K H' vs ds) (nd : nlBs ds = true) (x : Ext M H H') (hM : ∀ l xs, H l = some (.lst xs) → ¬ M l) (q1 : H l = none) (nt : H' t = none)
    (h1 : ∀ G : Hp, DpAll K G pre dpre) (h2 : ∀ G : Hp, DpAll K G post dpost) : Kp K H (upd H' t (.tup (pre ++ (.ref l :: post)))) (.ref t) (.tuple (dpre ++ (.list ds :: dpost))) := by
  have lt := ne_of_none hl nt
  have d9 : ∀ G : Hp, G t = some (.tup (pre ++ (.ref l :: post))) → G l = some (.lst vs) → DpAll K G vs ds → Dp K G (.ref t) (.tuple (dpre ++ (.list ds :: dpost))) := fun G g1 g2 g3 =>
    dp_newT g1 (dpa_app (h1 G) (.cons (dp_newL g2 g3) (h2 G)))
  have dn : DpAll K (upd H' t (.tup (pre ++ (.ref l :: post)))) vs ds := (Ext.new nt : X0 _ _).dpAll0 hd
  have xx := x.trans (Ext.new nt : Ext M _ (upd H' t (.tup (pre ++ (.ref l :: post)))))
  refine ⟨d9 _ upd_same (by rw [upd_ne lt]; exact hl) dn, fun l2 xs ys e => ?_⟩
  have ne2 : l ≠ l2 := fun z => by
    rw [← z, q1] at e
    cases e
  have e9 := xx.keep l2 _ e (hM l2 xs e) fun _ z => by cases z
  have nt2 : t ≠ l2 := fun z => by
    have q : H t = none := x.free t nt
    rw [z, e] at q
    cases q
  exact d9 _ (by rw [upd_ne nt2]; exact upd_same) (by rw [upd_ne ne2, upd_ne lt]; exact hl) ((lst_ext e9).dpsF (lst_tup e9) nd dn)
section
variable {a : Ad} {w : World} {K : Frag} {mg : Str → Option Value} {base : Heap}
theorem ok_read_solve (T : TT a K mg base) (M : Ms w K mg base a) (DC : Df K mg "read_change" s_read_change) (D : Df K mg "read_solve" s_read_solve) : Dn Pg w K mg base (L2.CX Pg w) 15 "read_solve" ["words"] (spRdCal a K "solve") := by
  refine D.dn (fun _ _ _ _ _ _ us hl => match us, hl with | [_], _ => rfl) fun f fd F => ?_
  refine F.okX (k := 14) sc_read_solve ?_ fun cdv A outer s H vs Q E hr h => ?_
  · rintro vs H Q E ⟨p, wl, c, rest, rfl, _⟩
    rfl
  have C := ok_read_change T M DC
  have r8 : Room 8 _ := hr.mono (by decide)
  have nd := sc_read_solve.nd
  obtain ⟨tS, gS⟩ := T.sEP
  refine ⟨_, pss_cons (ps_set (i := 1) nd rfl (.inl rfl) (pe_mx0 T.cW M.name r8 (takes_of rfl rfl rfl rfl) (pv 0)))
    (pss_cons (ps_set (i := 2) nd rfl (.inl rfl) (pe_mx0 T.cW M.name r8 (takes_of rfl rfl rfl rfl) (pv 0)))
    (pss_cons (ps_set (i := 3) nd rfl (.inl rfl) (pe_md0 T.cW M.number r8 (pv 0)))
    (pss_cons (ps_set (i := 4) nd rfl (.inl rfl) (pe_lst pa_nil))
    (pss_cons (ps_while (passes_of rfl) (pt_cmpR op_gt (pe_md0 T.cW M.left (hr.mono (by decide)) (pv 0)) pe_int (nomark _))
      (pss_cons (ps_if (pt_truth (pv 4) (by intro _; rfl)) (pss_one (ps_expr (pe_mx T.cW M.choice r8 (takes_of rfl rfl rfl rfl) (pv 0) (pa_cons (pe_tup (pa_cons (pe_gs gS) pa_nil)) pa_nil)))) pss_nil)
      (pss_one (ps_expr (pe_bm PySem.F.plainAttrs_list PySem.F.slot_list_append PySem.F.type_list_append mt_append (pv 4) (pa_cons (pe_dx C (hr.mono (by decide)) (takes_of rfl rfl rfl rfl) (pa_cons (pv 0) pa_nil)) pa_nil))))))
    (pss_one (ps_ret (pe_tup (pa_cons pe_str (pa_cons (pv 1) (pa_cons (pv 2) (pa_cons (pv 4) (pa_cons (pv 3) pa_nil)))))))))))), ?_⟩
  obtain ⟨p, wl, c, rest, rfl, hw, ⟨hc, hk⟩, ht, k1, k2⟩ := h
  obtain ⟨b, f, cs, t, rfl⟩ := key_solve hk
  obtain ⟨c1, c2, c3, c4, c5⟩ := hc
  refine rd_name rfl hw c1 fun H1 x1 w1 => ?_
  refine rd_name rfl w1 c2 fun H2 x2 w2 => ?_
  refine rd_num rfl w2 c5 fun H3 x3 w3 => ⟨(by show 0 ≤ sizeLine; decide), fun l nl => ?_⟩
  have x13 := (x1.trans x2).trans x3
  have ap := w3.apart nl
  refine ⟨fun m σ' H' => ∃ done todo vs, done ++ todo = cs ∧ m = todo.length ∧ σ' = [some (.ref p), some (.str b), some (.str f), some (.int t), some (.ref l)] ∧ X1 p H3 H' ∧ Rd a H' p wl (remW done todo ++ rest) ∧ H' l = some (.lst vs) ∧ DpAll K H' vs (done.map Chg.d),
    ⟨_, [], cs, [], rfl, rfl, rfl, Ext.new nl, w3.new nl, upd_same, .nil⟩, ?_⟩
  rintro m σ' H' ⟨done, todo, vs, hd, rfl, rfl, x4, w4, hl, hdp⟩
  have len := congrArg List.length hd
  rw [List.length_append] at len
  cases todo with
  | cons c todo =>
    have oc : OkChg c := c4 c (by rw [← hd]; simp)
    have ln := (chg_clean oc).2.2
    have lv : vs.length = done.length := by rw [dpa_len hdp, List.length_map]
    refine rd_left rfl w4 ⟨_, _, rfl, rfl, _, rfl, if_t (decide_eq_true ?_) ?_⟩
    · show (0 : Int) < ((remW done (c :: todo) ++ rest).length : Int)
      rw [List.length_append]
      cases done with
      | nil =>
        show (0 : Int) < ((slash (c.ws :: todo.map Chg.ws)).length + rest.length : Nat)
        rw [slash_cons, List.length_append]
        omega
      | cons d ds =>
        show (0 : Int) < ((c.ws ++ slT (todo.map Chg.ws)).length + 1 + rest.length : Nat)
        omega
    refine ⟨fun σ' H' => ∃ m', m' < (c :: todo).length ∧ ∃ done todo vs, done ++ todo = cs ∧ m' = todo.length ∧ σ' = [some (.ref p), some (.str b), some (.str f), some (.int t), some (.ref l)] ∧ X1 p H3 H' ∧ Rd a H' p wl (remW done todo ++ rest) ∧ H' l = some (.lst vs) ∧ DpAll K H' vs (done.map Chg.d), fun _ _ z => z, ?_⟩
    have next : ∀ {G : Hp} {v : V}, X1 p H3 G → G l = some (.lst vs) → Rd a G p wl (slT (todo.map Chg.ws) ++ rest) → DpAll K G vs (done.map Chg.d) → Dp K G v c.d →
        ∃ m', m' < (c :: todo).length ∧ ∃ done todo us, done ++ todo = cs ∧ m' = todo.length ∧ [some (V.ref p), some (.str b), some (.str f), some (.int t), some (.ref l)] = [some (.ref p), some (.str b), some (.str f), some (.int t), some (.ref l)] ∧ X1 p H3 (upd G l (.lst (vs ++ [v]))) ∧ Rd a (upd G l (.lst (vs ++ [v]))) p wl (remW done todo ++ rest) ∧ (upd G l (.lst (vs ++ [v]))) l = some (.lst us) ∧ DpAll K (upd G l (.lst (vs ++ [v]))) us (done.map Chg.d) := fun {G v} xg hg wg dg dv => by
      refine ⟨todo.length, by rw [List.length_cons]; omega, done ++ [c], todo, vs ++ [v], by rw [List.append_assoc]; exact hd, rfl, rfl, Ext.ownL xg nl hg, ?_, upd_same, ?_⟩
      · have e : remW (done ++ [c]) todo = slT (todo.map Chg.ws) := by cases done <;> rfl
        rw [e]
        exact wg.own ap hg
      · rw [List.map_append]
        exact (lst_ext hg).dpsF (lst_tup hg) (by rw [← List.map_append]; exact nl_map nl_chg _) (dpa_app dg (.cons dv .nil))
    have tl9 : Tail (slT (todo.map Chg.ws) ++ rest) := by
      cases todo with
      | nil => exact rd_rest (a := a) (H := H) (p := p) (wl := wl) (w0 := b) ht
      | cons d ds => exact .inr (.inr ⟨_, rfl⟩)
    have stop9 : slT (todo.map Chg.ws) ++ rest = [Str.empty] → rest = [Str.empty] := fun z => by
      cases todo with
      | nil => exact z
      | cons d ds => exact absurd (List.cons.inj z).1 (by decide +kernel)
    cases done with
    | nil =>
      have ev : vs = [] := dpa_nil hdp
      have w5 : Rd a H' p wl (c.ws ++ (slT (todo.map Chg.ws) ++ rest)) := by
        rw [← List.append_assoc, ← slash_cons]
        exact w4
      refine ⟨_, rfl, false, .inl ⟨_, SqL.of hl, by rw [ev] <;> rfl⟩, if_f rfl ?_⟩
      refine ⟨_, rfl, .inl ⟨rfl, _, SqL.of hl⟩, _, rfl, p, wl, rfl, .inl ⟨c, _, w5, oc, tl9, fun hn v H6 x6 w6 dv => ?_, fun h1 h2 d H6 x6 => k2 rfl (stop9 h2) d H6 ((x13.trans x4).trans x6)⟩⟩
      have hl6 := x6.seq w5.ns hl rfl
      exact ⟨l, _, _, rfl, rfl, hl6, small1000 (by rw [lv]; exact Nat.zero_le _), next (x4.trans x6) hl6 w6 (x6.dpAll w5.ns hdp) dv⟩
    | cons d ds =>
      have ev : ∃ v0 vr, vs = v0 :: vr := by
        obtain ⟨v0, vr, e, _⟩ := dpa_cons hdp
        exact ⟨v0, vr, e⟩
      obtain ⟨v0, vr, ev⟩ := ev
      have w4' : Rd a H' p wl (("/" : Str) :: (c.ws ++ (slT (todo.map Chg.ws) ++ rest))) := by
        rw [← List.append_assoc]
        exact w4
      refine ⟨_, rfl, true, .inl ⟨_, SqL.of hl, by rw [ev] <;> rfl⟩, if_t rfl ?_⟩
      refine rd_choice ["/"] rfl w4' (by simp) (by decide) fun H5 x5 w5 => ?_
      have hl5 := x5.seq w4.ns hl rfl
      refine ⟨_, rfl, .inl ⟨rfl, _, SqL.of hl5⟩, _, rfl, p, wl, rfl, .inl ⟨c, _, w5, oc, tl9, fun hn v H6 x6 w6 dv => ?_, fun h1 h2 d H6 x6 => k2 rfl (stop9 h2) d H6 (((x13.trans x4).trans x5).trans x6)⟩⟩
      have hl6 := x6.seq w5.ns hl5 rfl
      rw [List.length_cons, List.length_cons] at len
      exact ⟨l, _, _, rfl, rfl, hl6, small1000 (by rw [lv, List.length_cons]; omega), next ((x4.trans x5).trans x6) hl6 w6 ((x5.trans x6).dpAll w4.ns hdp) dv⟩
  | nil =>
    rw [List.append_nil] at hd
    subst hd
    have er : remW done [] = [] := by cases done <;> rfl
    rw [er] at w4
    rcases ht with rfl | rfl
    · refine rd_left rfl w4 ⟨_, _, rfl, rfl, _, rfl, if_f rfl ?_⟩
      refine ⟨_, rfl, _, rfl, _, rfl, _, rfl, (by show 5 ≤ sizeLine; decide), fun u nu => ?_⟩
      exact k1 (fun z => by cases z.2) _ _ ((x13.trans x4).trans (Ext.new nu)) (w4.new nu) (kp_call (pre := [.str "solve", .str b, .str f]) (post := [.int t]) (dpre := [.str "solve", .str b, .str f]) (dpost := [.int t]) hl hdp (nl_map nl_chg _) (x13.trans x4) (fun l xs e => rd_lst hw e) (x13.free l nl) nu
        (fun G => .cons (.str _) (.cons (.str _) (.cons (.str _) .nil))) (fun G => .cons (.int _) .nil))
    · refine rd_left rfl w4 ⟨_, _, rfl, rfl, _, rfl, if_t rfl ?_⟩
      refine ⟨fun _ _ => False, fun _ _ z => z.elim, ?_⟩
      cases done with
      | nil =>
        have ev : vs = [] := dpa_nil hdp
        refine ⟨_, rfl, false, .inl ⟨_, SqL.of hl, by rw [ev] <;> rfl⟩, if_f rfl ?_⟩
        exact ⟨_, rfl, .inl ⟨rfl, _, SqL.of hl⟩, _, rfl, p, wl, rfl, .inr ⟨_, w4, fun d H6 x6 => k2 rfl rfl d H6 ((x13.trans x4).trans x6)⟩⟩
      | cons d ds =>
        obtain ⟨v0, vr, ev, _⟩ := dpa_cons hdp
        refine ⟨_, rfl, true, .inl ⟨_, SqL.of hl, by rw [ev] <;> rfl⟩, if_t rfl ?_⟩
        exact rd_choiceX ["/"] rfl w4 (by decide +kernel) (by decide) fun d H5 x5 => k2 rfl rfl d H5 ((x13.trans x4).trans x5)
end
end K31
/-! K31, part 9: an exception leaves from inside a list comprehension. -/
namespace K31
open PySem PySem.Spec PyProof.Rows L2
open PySem.W (Frag)
/-- a context with another wish about exceptions -/
abbrev reX (X : Cx) (E : Value → Shared → Prop) : Cx := { X with xe := E }
theorem inv_reX {X : Cx} {E : Value → Shared → Prop} {pins : List (Addr × Obj)} {σ : L2.St} {H : Hp} {s : Shared} (I : L2.Inv X pins σ H s) : L2.Inv (reX X E) pins σ H s := by
  obtain ⟨o, i1, i2, i3, i4, i5, i6, i7, i8, i9, i10⟩ := I
  obtain ⟨o1, o2, o3, o4, o5, o6, o7, o8, o9, o10, o11, o12, o13, o14, o15, o16, o17, o18⟩ := o
  exact ⟨⟨o1, o2, o3, o4, o5, o6, o7, o8, o9, o10, o11, o12, o13, o14, o15, o16, o17, o18⟩, i1, i2, i3, i4, i5, i6, i7, i8, i9, i10⟩
theorem inv_unX {X : Cx} {E : Value → Shared → Prop} {pins : List (Addr × Obj)} {σ : L2.St} {H : Hp} {s : Shared} (I : L2.Inv (reX X E) pins σ H s) : L2.Inv X pins σ H s := by
  obtain ⟨o, i1, i2, i3, i4, i5, i6, i7, i8, i9, i10⟩ := I
  obtain ⟨o1, o2, o3, o4, o5, o6, o7, o8, o9, o10, o11, o12, o13, o14, o15, o16, o17, o18⟩ := o
  exact ⟨⟨o1, o2, o3, o4, o5, o6, o7, o8, o9, o10, o11, o12, o13, o14, o15, o16, o17, o18⟩, i1, i2, i3, i4, i5, i6, i7, i8, i9, i10⟩
theorem note_same {x : Value} {e1 e2 : Env} (h : e1.frame = e2.frame) : noteFrame x e1 = noteFrame x e2 := by
  unfold noteFrame PySem.frameOf
  rw [h]
/-- frames that stand alike -/
theorem frames_alike {h h' B B' : Heap} : ∀ {l : List Env}, h.FunFrames B l → (∀ L ∈ frs l, h'.get? L = h.get? L) → (∀ L, B.get? L = none → B'.get? L = none) → h'.FunFrames B' l
  | [], _, _, _ => trivial
  | env :: l, q, k, n => by
    obtain ⟨hk, ⟨L, o, hf, hn, ho, hd⟩, hr⟩ := q
    refine ⟨hk, ⟨L, o, hf, n L hn, ?_, hd⟩, frames_alike hr (fun b hb => k b ?_) n⟩
    · rw [k L (List.mem_filterMap.mpr ⟨env, List.mem_cons_self, hf⟩)]
      exact ho
    · obtain ⟨e, he, z⟩ := List.mem_filterMap.mp hb
      exact List.mem_filterMap.mpr ⟨e, List.mem_cons_of_mem _ he, z⟩
section
variable {X : Cx} {pins : List (Addr × Obj)} {σ : L2.St} {H3 : Hp} {s3 : Shared} {W : WX}
theorem comp_fails {scope : Scope} {cl : List (Str × Addr)} {fp : List Addr} {pins' : List (Addr × Obj)} {σ' : L2.St} {H : Hp} {s s' : Shared} {u : Value} {use : Option (Value → Sem Unit)} {Qf : Value → Shared → Prop} {acc : Value}
    (hst : X.stack = X.env :: X.outer) (hf : X.env.frame = some X.env.locals) (tk : Takes X W) (I3 : L2.Inv X pins σ H3 s3) (hfp : ∀ b ∈ fp, FpOk X pins H3 b)
    (I5 : L2.Inv (X.blk s3 H3 scope (compEnvC scope cl s3.heap.objs.size X.env) fp) pins' σ' H s) (c : L2.CX X.prog X.w X.stack H s (fun cls d G => W cls d σ G) u s') :
    notedBy (model X.prog X.w) X.A (compEnvC scope cl s3.heap.objs.size X.env) (fun e s'' => compEnds (model X.prog X.w) X.A X.xe use Qf acc (compEnvC scope cl s3.heap.objs.size X.env) (.error e) s'') u s' := by
  generalize hC : s3.heap.objs.size = C at I5 ⊢
  obtain ⟨a, B, H', cls, d, rfl, fl, hok, ub, na, os, ag, hW⟩ := c
  -- the block of names is no frame, and stands on the ground
  have nC : ∀ {b : Addr} {o : Obj}, s3.heap.get? b = some o → b ≠ C := fun {b o} e z => by
    have q := Heap.lt_size e
    rw [hC, z] at q
    exact Nat.lt_irrefl _ q
  have stk3 := I3.stack
  have nCf : C ∉ frs X.stack := fun hb => by
    obtain ⟨_, o, ho, _⟩ := stk3.mem hb
    exact nC ho rfl
  have frC : H C = none := I5.free
  obtain ⟨mC, hnsC, _⟩ := I5.loc
  have hnsC : s.heap.Ns C mC := hnsC
  obtain ⟨oC, esC, epC, gC, rC⟩ := id hnsC
  have gB : B.get? C = some oC := ub.keep C oC gC frC nCf
  have frC' : H' C = none := ub.free C oC gC frC
  have st : B.StaysIn s'.heap := fl.1
  have aC : a ≠ C := fun z => by
    have q := fl.2.1
    rw [z, gB] at q
    cases q
  -- the ground without the block
  obtain ⟨G, g1, g2⟩ := restrict s'.heap fun b => decide (b ≠ C) && ((B.get? b).isSome || decide (b ∈ frs X.stack))
  obtain ⟨B', b1, b2⟩ := restrict B fun b => decide (b ≠ C)
  have bB : ∀ b o, b ≠ C → B.get? b = some o → B'.get? b = some o := fun b o z e => by
    rw [b1 b (by simpa using z)]
    exact e
  have Bb : ∀ b o, B'.get? b = some o → B.get? b = some o ∧ b ≠ C := fun b o e => by
    by_cases z : b = C
    · rw [b2 b (by simp [z])] at e
      cases e
    · rw [b1 b (by simpa using z)] at e
      exact ⟨e, z⟩
  have bn : ∀ b, B.get? b = none → B'.get? b = none := fun b e => by
    cases q : B'.get? b with
    | none => rfl
    | some o =>
      have z := (Bb b o q).1
      rw [e] at z
      cases z
  have gG : ∀ b o, b ≠ C → B.get? b = some o → G.get? b = some o := fun b o z e => by
    rw [g1 b (by simp [z, e])]
    exact st b o e
  have gF : ∀ b, b ∈ frs X.stack → G.get? b = s'.heap.get? b := fun b hb => g1 b (by
    have z : b ≠ C := fun z => nCf (by rw [← z]; exact hb)
    simp [z, hb])
  have Gg : ∀ b o, G.get? b = some o → s'.heap.get? b = some o ∧ b ≠ C ∧ ((B.get? b).isSome = true ∨ b ∈ frs X.stack) := fun b o e => by
    cases q : (decide (b ≠ C) && ((B.get? b).isSome || decide (b ∈ frs X.stack))) with
    | false =>
      rw [g2 b q] at e
      cases e
    | true =>
      rw [g1 b q] at e
      rw [Bool.and_eq_true, Bool.or_eq_true] at q
      exact ⟨e, of_decide_eq_true q.1, q.2.imp id of_decide_eq_true⟩
  have ua : Un (frs X.stack) fp H3 H s3.heap s.heap := I5.base
  have hos3 : s'.os = s3.os := os.trans I5.os
  have J : L2.Inv X pins σ H' { s3 with heap := G, gens := s'.gens, drawn := s'.drawn, toks := s'.toks } := by
    refine I3.call (ch := fp) ⟨fun b o e n hb hx => ?_, fun b o e n hb hx => ?_, fun b o e n hx => ?_, fun b o e hx => ?_, fun b xs e => ub.tups b xs (ua.tups b xs e), fun b o xs e => ub.frzs b o xs (ua.frzs b o xs e), fun b ps e => ?_⟩ (fun b o e => ?_) ag (fun b hb => ⟨(hfp b hb).2.2.2.1, (hfp b hb).2.1, (hfp b hb).2.2.2.2.1, (hfp b hb).2.2.2.2.2⟩)
    · exact gG b o (nC e) (ub.keep b o (ua.keep b o e n hb hx) (ua.free b o e n hx) hb)
    · obtain ⟨sl, e1⟩ := ua.slot b o e n hb hx
      obtain ⟨sl2, e2⟩ := ub.slot b _ e1 hb
      exact ⟨sl2, by rw [gF b hb]; exact e2⟩
    · obtain ⟨o', e1⟩ := ua.there b o e hx
      exact ub.free b o' e1 (ua.free b o e n hx)
    · obtain ⟨o', e1⟩ := ua.there b o e hx
      by_cases hb : b ∈ frs X.stack
      · obtain ⟨sl, q⟩ := ub.slot b o' e1 hb
        exact ⟨_, by rw [gF b hb]; exact q⟩
      · obtain ⟨o2, q⟩ := ub.there b o' e1 hb
        exact ⟨o2, gG b o2 (nC e) q⟩
    · obtain ⟨m1, e1⟩ := ua.tbls b ps e
      obtain ⟨m2, e2⟩ := ub.tbls b _ e1
      exact ⟨m1 ++ m2, by rw [e2, Array.append_assoc]⟩
    · refine (hok b o e).stay (fun x v hx q => gG x v (fun z => ?_) q) (fun _ q => q) fun _ _ q => q
      rcases hx with hx | hx
      · rw [z] at hx
        rw [← hx, frC'] at e
        cases e
      · rw [z, frC'] at hx
        cases hx
  -- the frame that catches is noted
  have hfr : X.A.frames = some (X.env :: X.outer) := by rw [I3.ok.frames, hst]
  rw [hst] at fl
  show wpAny _ _ (noteFrame (.ref a) (compEnvC scope cl C X.env)) _ _ _
  rw [note_same (e2 := X.env) (show (compEnvC scope cl C X.env).frame = X.env.frame from rfl)]
  refine HandSPX.looks_onZ Zc.steady hfr hf fl fun h1 hh up1 => ?_
  have kC : h1.get? C = some oC := hh.1 C oC gB
  have key : CompFails (model X.prog X.w) X.A X.xe (compEnvC scope cl C X.env) (.ref a) { s' with heap := h1 } := by
    refine ⟨mC, ⟨oC, esC, epC, kC, rC⟩, fun h2 m2 hn2 sb => ?_⟩
    have at2 : ∀ b, b ≠ C → h2.get? b = h1.get? b := fun b hb => sb.2 b hb
    obtain ⟨k1, k2, k3, oe, vs, T, oT, ts, t1, t2, t3, t4, t5, t6, t7, t8, t9⟩ := hh
    have TC : T ≠ C := fun z => by
      rw [z, gB] at t5
      cases t5
    have h2h : HandSPX.HeldZ B' (X.env :: X.outer) a (Zc cls d) X.env.locals h2 := by
      refine ⟨fun b o e => ?_, bn a k2, frames_alike k3 (fun L hL => at2 L fun z => nCf (by rw [← z, hst]; exact hL)) bn, oe, vs, T, oT, ts, ?_, t2, t3, t4, bn T t5, t6, ?_, t8, t9⟩
      · obtain ⟨e1, z⟩ := Bb b o e
        rw [at2 b z]
        exact k1 b o e1
      · rw [at2 a aC]
        exact t1
      · rw [at2 T TC]
        exact t7
    unfold PySem.passOn
    have t1' : ({ s' with heap := h2 } : Shared).heap.get? a = some oe := by
      show h2.get? a = _
      rw [at2 a aC]
      exact t1
    refine wpAny_bind (wpAny_field t1' t3 t4 ?_)
    rw [if_neg (show ¬ ((Value.ref T == Value.none) = true) from Bool.false_ne_true)]
    refine wpAny_bind ?_
    show wpAny _ _ (setFlight (.ref a) X.env.frame) _ _ _
    rw [hf]
    refine HandSPX.setFlight_onZ (s := { s' with heap := h2 }) h2h fun h4 hh4 up4 => wpAny_throw (tk _ _ ?_)
    refine ⟨a, B', { s3 with heap := G, gens := s'.gens, drawn := s'.drawn, toks := s'.toks }, pins, σ, H', cls, d, rfl, J, fun b o e hb => ?_, fun b o e hnf => ?_, .inr (.inr ?_), na, hos3, ag, hW⟩
    · obtain ⟨e1, z, q⟩ := Gg b o e
      rcases q with q | q
      · obtain ⟨o2, q2⟩ := Option.isSome_iff_exists.mp q
        have e2 := st b o2 q2
        rw [e1] at e2
        rw [Option.some.inj e2]
        exact bB b o2 z q2
      · exact absurd q hb
    · obtain ⟨e1, z, _⟩ := Gg b o e
      obtain ⟨sl, q⟩ := up1 b o e1 hnf
      obtain ⟨sl2, q2⟩ := up4 b { o with slots := sl } (by show h2.get? b = _; rw [at2 b z]; exact q) hnf
      exact ⟨sl2, q2⟩
    · rw [hst]
      exact hh4
  show compEnds _ _ _ use Qf acc _ (.error (.ref a)) _
  cases use <;> exact key
theorem lcx_core {H : Hp} {s : Shared} {Q : VK} {elt tg iter : Expr} {ifs : List Expr} {scope : Scope} {own : List (Str × Nat)} {pos pos' : Pos} {wi : TI} {g : TG} {tt : L2.TT} {te : TE} {use : Option (Value → Sem Unit)} {Qf : Value → Shared → Prop}
    (hst : X.stack = X.env :: X.outer) (hf : X.env.frame = some X.env.locals) (tk : Takes X W) (hc : X.calm = true) (hN : X.N.Nodup) (I : L2.Inv X pins σ H s) (hi : PI X tg iter wi) (ok : BlkOk X.N X.env.scope scope own)
    (hg : ∀ (s : Shared) (H : Hp) (C : Addr) (cl : List (Str × Addr)) (fp : List Addr), PG (X.blk s H scope (compEnvC scope cl C X.env) fp) tg g) (ht : ∀ (s : Shared) (H : Hp) (C : Addr) (cl : List (Str × Addr)) (fp : List Addr), PTs (X.blk s H scope (compEnvC scope cl C X.env) fp) ifs tt)
    (he : ∀ (s : Shared) (H : Hp) (C : Addr) (cl : List (Str × Addr)) (fp : List Addr) (E : Value → Shared → Prop), (∀ pins' σ' G s' u s'', L2.Inv (reX (X.blk s H scope (compEnvC scope cl C X.env) fp) E) pins' σ' G s' → L2.CX X.prog X.w X.stack G s' (fun cls d G' => W cls d σ G') u s'' → E u s'') →
      PE (reX (X.blk s H scope (compEnvC scope cl C X.env) fp) E) elt te) (hs : ∀ x, foldedSetIterable iter X.env x = pure x)
    (h : tLc wi g tt te (own.map (·.2)) σ H Q)
    (hRR : ∀ D ce s' m H', L2.Inv X pins σ H' s' → Q (.ref D) H' → s'.heap.Ns ce.locals m → FpOk X pins H' ce.locals → compEnds (model X.prog X.w) X.A X.xe use Qf (.ref D) ce (.ok .next) s') :
    wpAny (model X.prog X.w) X.A (comprehension (.ListComp elt [⟨tg, iter, ifs, 0⟩] scope pos) scope X.env pos' (newList []) false (eval iter X.env) use) Qf X.xe s := by
  have fr : ∀ y ∈ scope.names, y.2 = .free → ∃ c, X.env.cells.lookup y.1 = some c := fun y hy e => (ok.free y hy e).elim (fun k => I.ok.has _ (.inl k)) fun k => I.ok.has _ (.inr k)
  refine comprehension_at (use := use) rfl hs (closure_ok fr) ok.kind (fun y hy e => by rw [ok.uniq y hy, e]) (thn (hi.run pins s σ H _ I h) fun xv s1 hx => thn hx fun itv s2 h2 => ?_)
  obtain ⟨it, fp, tn, J, H2, e0, I2, T, st2, f2, q⟩ := h2
  subst e0
  refine wpAny_newObj_type (newEnv_comp ?_) (by show 0 ≤ sizeLine; decide)
  obtain ⟨D, hD⟩ : ∃ D, s2.heap.objs.size = D := ⟨_, rfl⟩
  rw [hD]
  have nD : H2 D = none := I2.hok.fresh (Nat.le_of_eq hD)
  obtain ⟨Wv, ⟨m0, w0⟩, turn⟩ := q D nD
  obtain ⟨s3, hs3⟩ : ∃ s3 : Shared, ({ s2 with heap := s2.heap.push { cls := .type "list", data := .seq ([] : List Value).toArray } } : Shared) = s3 := ⟨_, rfl⟩
  have p3 : s3.heap = s2.heap.push { cls := .type "list", data := .seq ([] : List Value).toArray } := by rw [← hs3]
  have I3 : L2.Inv X pins σ (upd H2 D (.lst [])) s3 := by
    rw [← hs3]
    refine I2.laid (t' := s2.toks) (fun b o e => Heap.get?_push_of_some _ e) (Nat.le_of_eq hD) ⟨Nat.zero_le _, [], 0, .nil, ?_⟩
    rw [← hD]
    exact Heap.get?_push_size _ rfl
  have lo : ∀ b ∈ fp, b < s2.heap.objs.size := fun b hb => by
    obtain ⟨o, e, _⟩ := T.obj _ _ st2 b hb
    exact Heap.lt_size e
  have f3 : ∀ b ∈ fp, FpOk X pins (upd H2 D (.lst [])) b := fun b hb => ⟨by
    rw [upd_ne (by rw [← hD]; exact Nat.ne_of_lt (lo b hb))]
    exact (f2 b hb).1, (f2 b hb).2⟩
  have f3s : ∀ b ∈ fp, FpOk X pins (upd H2 D (.lst [])) b ∧ b < s3.heap.objs.size := fun b hb => ⟨f3 b hb, by rw [p3, Heap.size_push]; exact Nat.lt_succ_of_lt (lo b hb)⟩
  have st3 : tn 0 s3.heap := T.keep _ _ _ st2 fun b _ o e => by rw [p3]; exact Heap.get?_push_of_some _ e
  have I4 := block_start I3 ok hN f3s
  have eS : s3.toks = s2.toks := by rw [← hs3]
  obtain ⟨cl, hcl⟩ : ∃ cl, cellsFrom (s3.heap.objs.size + 1) scope.names (cloFrom X.env.cells scope.names []) = cl := ⟨_, rfl⟩
  obtain ⟨H3, hH3⟩ : ∃ H3, upd H2 D (.lst []) = H3 := ⟨_, rfl⟩
  rw [hH3] at I3 I4 w0 f3
  rw [hcl] at I4
  obtain ⟨s4, hs4⟩ : ∃ s4 : Shared, ({ s3 with heap := pushCells (s3.heap.push { cls := .type "dict", data := .dict #[] }) scope.names } : Shared) = s4 := ⟨_, rfl⟩
  rw [hs4] at I4
  show codeAny _ _ (.compStart (.ListComp elt [⟨tg, iter, ifs, 0⟩] scope pos) 0 (.ref it) (.ref D) _) _ _
  have go : codeAny (model X.prog X.w) X.A (.compStart (.ListComp elt [⟨tg, iter, ifs, 0⟩] scope pos) 0 (.ref it) (.ref D) (compEnvC scope cl s3.heap.objs.size X.env)) (compEnds (model X.prog X.w) X.A X.xe use Qf (.ref D) (compEnvC scope cl s3.heap.objs.size X.env)) s4 := by
    have st4 : tn 0 s4.heap := T.keep _ _ _ st3 fun b _ o e => by rw [← hs4]; exact pushCells_keeps _ _ _ _ (Heap.get?_push_of_some _ e)
    have pg := hg s3 H3 s3.heap.objs.size cl fp
    have pt := ht s3 H3 s3.heap.objs.size cl fp
    have stat : ∀ {σ' : L2.St} {H' : Hp} {s' : Shared}, L2.Inv (X.blk s3 H3 scope (compEnvC scope cl s3.heap.objs.size X.env) fp) [] σ' H' s' → (∀ b ∈ fp, H' b = none) → ∀ b ∈ fp, FpOk (X.blk s3 H3 scope (compEnvC scope cl s3.heap.objs.size X.env) fp) [] H' b := fun {σ' H' s'} I' hn b hb =>
      ⟨hn b hb, (I'.ok.exf b hb).1, I'.ok.exfs b hb, .inl hb, fun x c e => (I'.ok.exf b hb).2 x c e, fun p hp => absurd (show p ∈ ([] : List (Addr × Obj)) ++ [] from hp) (by simp)⟩
    have loop : codeAny (model X.prog X.w) X.A (.compLoop (.ListComp elt [⟨tg, iter, ifs, 0⟩] scope pos) 0 (.ref it) (.ref D) (compEnvC scope cl s3.heap.objs.size X.env)) (compEnds (model X.prog X.w) X.A X.xe use Qf (.ref D) (compEnvC scope cl s3.heap.objs.size X.env)) s4 := by
      refine compLoop_any (fun n s' => ∃ i H', L2.Inv (X.blk s3 H3 scope (compEnvC scope cl s3.heap.objs.size X.env) fp) [] (wipe σ (own.map (·.2))) H' s' ∧ tn i s'.heap ∧ (∀ b ∈ fp, H' b = none) ∧ Wv i n H') ?_ m0 ⟨0, H3, I4, st4, fun b hb => (f3 b hb).1, w0⟩
      rintro n s5 ⟨i, H5, I5, st5, n5, w5⟩
      rcases turn i n H5 w5 with ⟨stop, qq⟩ | ⟨go, Nx, hNx, step⟩
      · refine thnF (T.done (X.blk s3 H3 scope (compEnvC scope cl s3.heap.objs.size X.env) fp) rfl rfl rfl hc i [] s5 _ H5 (fun _ _ => False) I5 (stat I5 n5) st5 stop) fun r s6 hh => ?_
        obtain ⟨hr, I6⟩ := hh
        subst hr
        have I7 : L2.Inv X pins σ H5 s6 := I3.call' (ch := fp) I6.os I6.base I6.hok I6.bare fun b hb => ⟨(f3 b hb).2.2.2.1, (f3 b hb).2.1, (f3 b hb).2.2.2.2.1, (f3 b hb).2.2.2.2.2⟩
        obtain ⟨m, hn, _⟩ := I6.loc
        exact hRR D _ s6 m H5 I7 qq hn (I3.fpOk (Nat.le_refl _) I6.free)
      · refine thnF (T.item (X.blk s3 H3 scope (compEnvC scope cl s3.heap.objs.size X.env) fp) rfl rfl rfl hc i [] s5 _ H5 (fun _ _ => False) I5 (stat I5 n5) st5 go) fun r s6 hh => ?_
        obtain ⟨u, hr, h6⟩ := hh
        subst hr
        refine thnF h6 fun _ s7 h7 => ?_
        obtain ⟨x, H7, I7, r7, y7, st7, n7⟩ := h7
        refine thnF (pg.run _ s7 _ H7 x u _ (I7.pinned (stat I7 n7) (T.obj _ _ st7)) r7 (step x H7 y7)) fun _ s8 h8 => ?_
        obtain ⟨σ8, H8, I8, hw8, q8⟩ := h8
        refine thnF (pt.run _ s8 σ8 H8 _ I8 q8) fun b s9 h9 => ?_
        obtain ⟨H9, I9, q9⟩ := h9
        have fin : ∀ {s' : Shared} {H' : Hp}, L2.Inv (X.blk s3 H3 scope (compEnvC scope cl s3.heap.objs.size X.env) fp) ([] ++ pinsAt fp s7.heap) σ8 H' s' → Nx H' → ∃ m, m < n ∧ ∃ i H', L2.Inv (X.blk s3 H3 scope (compEnvC scope cl s3.heap.objs.size X.env) fp) [] (wipe σ (own.map (·.2))) H' s' ∧ tn i s'.heap ∧ (∀ b ∈ fp, H' b = none) ∧ Wv i m H' := fun {s' H'} I' nx => by
          obtain ⟨m', hm, w'⟩ := hNx H' nx
          have pin' : ∀ b ∈ fp, ∀ o, s7.heap.get? b = some o → s'.heap.get? b = some o ∧ H' b = none := fun b hb o e => by
            have z := I'.pin (b, o) (List.mem_append_right _ (List.mem_append_right _ (mem_pinsAt hb e)))
            exact ⟨z.1, z.2.1⟩
          have hl : (wipe σ (own.map (·.2))).length = σ8.length := by rw [← hw8, wipe_length]
          refine ⟨m', hm, i + 1, H', (I'.unpinned (pins := [])).weak hl (fun j v e => ?_), T.keep _ _ _ st7 fun b hb o e => (pin' b hb o e).1, fun b hb => ?_, w'⟩
          · rw [← hw8] at e
            exact (wipe_some e).1
          · obtain ⟨o, e, _⟩ := T.obj _ _ st7 b hb
            exact (pin' b hb o e).2
        cases b with
        | false =>
          simp only [Bool.false_eq_true, if_false] at q9 ⊢
          exact fin I9 q9
        | true =>
          simp only [if_true] at q9 ⊢
          have pe := he s3 H3 s3.heap.objs.size cl fp (notedBy (model X.prog X.w) X.A (compEnvC scope cl s3.heap.objs.size X.env) (fun e s'' => compEnds (model X.prog X.w) X.A X.xe use Qf (.ref D) (compEnvC scope cl s3.heap.objs.size X.env) (.error e) s''))
            fun pins' σ' G s' u s'' IE c => comp_fails hst hf tk I3 f3 (inv_unX IE) c
          refine wpAny_mono (pe.run _ s9 σ8 H9 _ (inv_reX I9) q9) (fun z s10 h10 => ?_) fun _ _ e => e
          obtain ⟨yv, H10, I10, r10, acc, hD10, hz10, nx⟩ := h10
          exact app_ok (X := X.blk s3 H3 scope (compEnvC scope cl s3.heap.objs.size X.env) fp) (inv_unX I10) hD10 hz10 r10 fun s11 I11 => fin I11 nx
    exact codeAny_compStart_list loop (T.self X.A 0 _ _ _ st4 loop)
  rw [← hcl, ← hs4, ← hs3] at go
  exact go
theorem ps_setLcX {i : Nat} {y : Str} {py : Pos} {elt tg iter : Expr} {ifs : List Expr} {scope : Scope} {own : List (Str × Nat)} {pos spos : Pos} {wi : TI} {g : TG} {tt : L2.TT} {te : L2.St → TE}
    (hst : X.stack = X.env :: X.outer) (hf : X.env.frame = some X.env.locals) (tk : Takes X W) (hc : X.calm = true) (hN : X.N.Nodup) (hy : X.N[i]? = some y) (hyl : X.env.scope.names.lookup y = some .local)
    (hsw : swapsWith (.ListComp elt [⟨tg, iter, ifs, 0⟩] scope pos) (some (.Name y py)) spos.line X.env = pure true) (hi : PI X tg iter wi) (ok : BlkOk X.N X.env.scope scope own)
    (hg : ∀ (s : Shared) (H : Hp) (C : Addr) (cl : List (Str × Addr)) (fp : List Addr), PG (X.blk s H scope (compEnvC scope cl C X.env) fp) tg g) (ht : ∀ (s : Shared) (H : Hp) (C : Addr) (cl : List (Str × Addr)) (fp : List Addr), PTs (X.blk s H scope (compEnvC scope cl C X.env) fp) ifs tt)
    (he : ∀ (σ : L2.St) (s : Shared) (H : Hp) (C : Addr) (cl : List (Str × Addr)) (fp : List Addr) (E : Value → Shared → Prop), (∀ pins' σ' G s' u s'', L2.Inv (reX (X.blk s H scope (compEnvC scope cl C X.env) fp) E) pins' σ' G s' → L2.CX X.prog X.w X.stack G s' (fun cls d G' => W cls d σ G') u s'' → E u s'') →
      PE (reX (X.blk s H scope (compEnvC scope cl C X.env) fp) E) elt (te σ)) (hs : ∀ x, foldedSetIterable iter X.env x = pure x := by intro _; rfl) :
    PS X (.Assign [.Name y py] (.ListComp elt [⟨tg, iter, ifs, 0⟩] scope pos) spos) (fun D σ H => tAsg (tLc wi g tt (te σ) (own.map (·.2))) (gName i) D σ H) := by
  refine ⟨fun pins s σ H D I h => ?_⟩
  rw [exec_Assign_Name_used _ _ _ _ hsw]
  refine wpAny_bind (wpAny_standAt (wpAny_bind ?_))
  show wpAny _ X.A (do let _ ← comprehension (.ListComp elt [⟨tg, iter, ifs, 0⟩] scope pos) scope X.env (firstIterPos [⟨tg, iter, ifs, 0⟩] pos) (newList []) false (eval iter X.env) (some (assign (.Name y py) X.env))) _ _ s
  have h : tLc wi g tt (te σ) (own.map (·.2)) σ H (fun x H1 => gName i x σ H1 D.nx) := h
  refine wpAny_bind (thn (lcx_core (use := some (assign (.Name y py) X.env)) (Qf := fun _ s' => SP X pins D .next s') hst hf tk hc hN I hi ok hg ht (fun s H C cl fp E k => he σ s H C cl fp E k) hs h fun L ce s' m H' I' q hn f => ?_) fun _ s' hq => wpAny_pure (wpAny_pure hq))
  show wpAny _ _ (assign (.Name y py) X.env (.ref L)) _ _ _
  refine wpAny_assign_Name (store_ok2 (v := V.ref L) I' hN hy (.inl hyl) rfl (fun s2 I2 hh => ?_) (.inr hyl))
  obtain ⟨a, sb, ha⟩ := hh
  obtain ⟨f0, f1, f2, f3, f4, f5⟩ := f
  have haC : ce.locals ≠ a := by
    rcases ha with z | z
    · rw [z]
      exact f1
    · exact fun e => f4 y a z e.symm
  exact ⟨m, hn.sameBut sb haC, fun h3 sb3 => ⟨_, H', I2.turned (t' := s2.toks) (fun b o hb e => (sb3.2 b hb).trans e) f0 f1 f3 f4 f5, q⟩⟩
end
end K31
/-! K31, defs 9: read_advance, read_call. -/
namespace K31
open PySem PySem.Spec PyProof.Rows L2 GxR
open PySem.W (Frag)
open TL (tl)
section
variable {X : Cx} {k : Nat} {m : Str} {sp : Sp} {C : Addr} {o : Expr} {ta : TE} {pos apos : Pos} {ps : List Str} {E : XK}
theorem pe_mk0 {pl : Sem Bool} (c : Cls X.K C) (D : Mn X.prog X.w X.K X.mg X.base (L2.CX X.prog X.w) k C m ps sp) (hr : Room k X.A) (hx : Passes (L2.CX X.prog X.w) X E) (ho : PE X o ta)
    (ht : eval (.Call (.Attribute o m apos) [] [] pos) X.env = (do
      let ov ← eval o X.env
      standAt apos.atName
      let (f, first) ← holding [ov] (getMethod ov m pl)
      callWith pos f first (backTo pos (starEach [] X.env)) (backToKw pos (keywordEach [] X.env))) := by rfl) :
    PE X (.Call (.Attribute o m apos) [] [] pos) (tMeth C m sp [] E ta tNil) := by
  obtain ⟨f, fd, hm, b, F⟩ := D
  exact pe_meth0 ho c hm F hr b .nil hx ht
end
section
variable {a : Ad} {w : World} {K : Frag} {mg : Str → Option Value} {base : Heap}
theorem rd_sgnM {σ : L2.St} {H : Hp} {Q : VK} {E : XK} {p wl : Addr} {i : Nat} {ws : List Str} {n : Int} (hi : σ[i]? = some (some (.ref p))) (h : Rd a H p wl (sI n :: ws)) (hn : OkInt n) (k : ∀ H', X1 p H H' → Rd a H' p wl ws → Q (.int n) H') :
    tMeth a.cw "signed" (spWSgn a) [] E (tVar i) tNil σ H Q := by
  obtain ⟨dx, j, h1⟩ := wd_ins h.wd
  exact ⟨_, hi, p, dx, _, rfl, h1, wF_no _ _, p, wl, _, ws, rfl, h.tb, h.wd, .inl ⟨n, hn, rfl, fun H' x hw => k H' x ⟨hw, x.tb h.tb⟩⟩⟩
theorem rd_sgnMX {σ : L2.St} {H : Hp} {Q : VK} {E : XK} {p wl : Addr} {i : Nat} {ws : List Str} (hi : σ[i]? = some (some (.ref p))) (h : Rd a H p wl (Str.empty :: ws)) (k : ∀ d H', X1 p H H' → E (.ref a.ct) (some d) H') :
    tMeth a.cw "signed" (spWSgn a) [] E (tVar i) tNil σ H Q := by
  obtain ⟨dx, j, h1⟩ := wd_ins h.wd
  exact ⟨_, hi, p, dx, _, rfl, h1, wF_no _ _, p, wl, _, ws, rfl, h.tb, h.wd, .inr ⟨rfl, k⟩⟩
def plotL (q : Int × Int × Int) : List Int := [q.1, q.2.1, q.2.2]
theorem plot_ok {q : Int × Int × Int} (h : OkPlot q) : ∀ x ∈ plotL q, OkInt x := all_cons h.1 (all_cons h.2.1 (all_cons h.2.2 all_nil))
theorem ok_read_advance (T : TT a K mg base) (M : Ms w K mg base a) (D : Df K mg "read_advance" s_read_advance) : Dn Pg w K mg base (L2.CX Pg w) 15 "read_advance" ["words"] (spRdCal a K "advance") := by
  refine D.dn (fun _ _ _ _ _ _ us hl => match us, hl with | [_], _ => rfl) fun f fd F => ?_
  refine F.okX (k := 14) sc_read_advance ?_ fun cdv A outer s H vs Q E hr h => ?_
  · rintro vs H Q E ⟨p, wl, c, rest, rfl, _⟩
    rfl
  have r8 : Room 8 _ := hr.mono (by decide)
  have nd := sc_read_advance.nd
  refine ⟨_, pss_cons (ps_set (i := 1) nd rfl (.inl rfl) (pe_lst pa_nil))
    (pss_cons (ps_while (passes_of rfl) (pt_cmpR op_gt (pe_md0 T.cW M.left (hr.mono (by decide)) (pv 0)) pe_int (nomark _))
      (pss_cons (ps_setLcX (i := 2) (own := [("_", 3)]) (g := gName 3) (tt := tYes) (te := fun _ => tMeth a.cw "signed" (spWSgn a) [] E (tVar 0) tNil) rfl rfl (takes_of rfl rfl rfl rfl) rfl nd rfl rfl (sw_true rfl rfl rfl (by decide +kernel)) (pi_range1 (by rfl) (T.no "range") (pa_cons pe_int pa_nil))
          (blkOk_by (own := [("_", 3)]) (N := ["words", "plots", "coordinates", "_"]) (sc := defScope s_read_advance) (by decide +kernel))
          (fun _ _ _ _ _ => pg_name (i := 3) nd rfl (.inl rfl)) (fun _ _ _ _ _ => pts_nil) (fun σ s' H' C cl fp E' k => pe_mk0 T.cW M.signed r8 (fun pins' σ' G s'' u s3 I c => k pins' σ' G s'' u s3 I c) (pv 0)))
      (pss_one (ps_expr (pe_bm PySem.F.plainAttrs_list PySem.F.slot_list_append PySem.F.type_list_append mt_append (pv 1) (pa_cons (pe_callTy call_tuple_of (by rfl) (T.no "tuple") (by decide +kernel) (pa_cons (pv 2) pa_nil)) pa_nil))))))
    (pss_one (ps_ret (pe_tup (pa_cons pe_str (pa_cons (pv 1) pa_nil)))))), ?_⟩
  obtain ⟨p, wl, c, rest, rfl, hw, ⟨hc, hk⟩, ht, k1, k2⟩ := h
  obtain ⟨qs, rfl⟩ := key_advance hk
  obtain ⟨l2, hn⟩ := hc
  refine ⟨(by show 0 ≤ sizeLine; decide), fun l nl => ?_⟩
  have ap := hw.apart nl
  refine ⟨fun m σ' H' => ∃ done todo vs v2, done ++ todo = qs ∧ m = todo.length ∧ σ' = [some (.ref p), some (.ref l), v2, none] ∧ X1 p H H' ∧ Rd a H' p wl ((todo.map plotW).flatten ++ rest) ∧ H' l = some (.lst vs) ∧ DpAll K H' vs (done.map plotD),
    ⟨_, [], qs, [], none, rfl, rfl, rfl, Ext.new nl, hw.new nl, upd_same, .nil⟩, ?_⟩
  rintro m σ' H' ⟨done, todo, vs, v2, hd, rfl, rfl, x4, w4, hl, hdp⟩
  have len := congrArg List.length hd
  rw [List.length_append] at len
  cases todo with
  | cons q todo =>
    rw [List.length_cons] at len
    have lv : vs.length = done.length := by rw [dpa_len hdp, List.length_map]
    refine rd_left rfl w4 ⟨_, _, rfl, rfl, _, rfl, if_t (decide_eq_true ?_) ?_⟩
    · show (0 : Int) < (((plotW q ++ (todo.map plotW).flatten) ++ rest).length : Int)
      rw [List.length_append, List.length_append]
      show (0 : Int) < ((3 + _ + _ : Nat) : Int)
      omega
    refine ⟨fun σ' H' => ∃ m', m' < (q :: todo).length ∧ ∃ done todo vs v2, done ++ todo = qs ∧ m' = todo.length ∧ σ' = [some (.ref p), some (.ref l), v2, none] ∧ X1 p H H' ∧ Rd a H' p wl ((todo.map plotW).flatten ++ rest) ∧ H' l = some (.lst vs) ∧ DpAll K H' vs (done.map plotD), fun _ _ z => z, ?_⟩
    have w4' : Rd a H' p wl ((plotL q).map sI ++ ((todo.map plotW).flatten ++ rest)) := by
      rw [← List.append_assoc]
      exact w4
    have oq := plot_ok (hn q (by rw [← hd]; simp))
    refine ⟨3, rfl, by decide, by decide, fun t nt => lc_range (lo := 0) (n := 3) (fun i G => X1 p H' G ∧ Rd a G p wl (((plotL q).map sI).drop i ++ ((todo.map plotW).flatten ++ rest)) ∧ G t = some (.lst (((plotL q).take i).map V.int))) ⟨Ext.new nt, w4'.new nt, upd_same⟩ (fun i G hi hP => ?_) (fun G hP => ?_)⟩
    · obtain ⟨x5, w5, ht5⟩ := hP
      have hk : i < (plotL q).length := hi
      have e : ((plotL q).map sI).drop i = sI (plotL q)[i] :: ((plotL q).map sI).drop (i + 1) := by
        rw [List.drop_eq_getElem_cons (by rw [List.length_map]; exact hk), List.getElem_map]
      rw [e] at w5
      refine ⟨rfl, ?_⟩
      refine rd_sgnM rfl w5 (oq _ (List.getElem_mem hk)) fun H6 x6 w6 => ?_
      have ht6 : H6 t = some (.lst (((plotL q).take i).map V.int)) := x6.seq w5.ns ht5 rfl
      refine ⟨_, ht6, small1000 (by rw [List.length_map, List.length_take]; omega), Ext.ownL (x5.trans x6) nt ht6, w6.own (w4'.apart nt) ht6, ?_⟩
      rw [upd_same, take_succ (List.getElem?_eq_getElem hk), List.map_append]
      rfl
    · obtain ⟨x5, w5, ht5⟩ := hP
      have hl5 : G l = some (.lst vs) := x5.seq w4.ns hl rfl
      refine ⟨_, rfl, .inl ⟨rfl, _, SqL.of hl5⟩, _, rfl, t, _, rfl, .inl ⟨SqL.of ht5, fun u nu => ?_⟩⟩
      have lu := ne_of_none hl5 nu
      have hl6 : (upd G u (.tup (((plotL q).take 3).map V.int))) l = some (.lst vs) := by
        rw [upd_ne lu]
        exact hl5
      have x6 : X1 p G (upd G u (.tup (((plotL q).take 3).map V.int))) := Ext.new nu
      refine ⟨l, _, _, rfl, rfl, hl6, small1000 (by rw [lv]; omega), ?_⟩
      refine ⟨todo.length, by rw [List.length_cons]; omega, done ++ [q], todo, vs ++ [.ref u], some (.ref t), by rw [List.append_assoc]; exact hd, rfl, rfl, Ext.ownL ((x4.trans x5).trans x6) nl hl6, (w5.new nu).own ap hl6, upd_same, ?_⟩
      rw [List.map_append]
      refine (lst_ext hl6).dpsF (lst_tup hl6) (by rw [← List.map_append]; exact nl_map nl_plot _) (dpa_app ((x5.trans x6).dpAll w4.ns hdp) (.cons ?_ .nil))
      exact dp_newT upd_same (ints_dpa (plotL q))
  | nil =>
    rw [List.append_nil] at hd
    subst hd
    rcases ht with rfl | rfl
    · refine rd_left rfl w4 ⟨_, _, rfl, rfl, _, rfl, if_f rfl ?_⟩
      refine ⟨_, rfl, (by show 2 ≤ sizeLine; decide), fun u nu => ?_⟩
      exact k1 (fun z => by cases z.2) _ _ (x4.trans (Ext.new nu)) (w4.new nu) (kp_call (pre := [.str "advance"]) (post := []) (dpre := [.str "advance"]) (dpost := []) hl hdp (nl_map nl_plot _) x4 (fun l xs e => rd_lst hw e) nl nu (fun G => .cons (.str _) .nil) (fun G => .nil))
    · refine rd_left rfl w4 ⟨_, _, rfl, rfl, _, rfl, if_t rfl ?_⟩
      refine ⟨fun _ _ => False, fun _ _ z => z.elim, ?_⟩
      refine ⟨3, rfl, by decide, by decide, fun t nt => lc_range (lo := 0) (n := 3) (fun i G => i = 0 ∧ X1 p H' G ∧ Rd a G p wl [Str.empty]) ⟨rfl, Ext.new nt, w4.new nt⟩ (fun i G hi hP => ?_) (fun G hP => ?_)⟩
      · obtain ⟨rfl, x5, w5⟩ := hP
        refine ⟨rfl, ?_⟩
        exact rd_sgnMX rfl w5 fun d H6 x6 => k2 rfl rfl d H6 ((x4.trans x5).trans x6)
      · exact absurd hP.1 (by decide)
end
end K31
/-! K31, defs 10: read_call. -/
namespace K31
open PySem PySem.Spec PyProof.Rows L2 GxR
open PySem.W (Frag)
open TL (tl)
/-- the def at f, whose promise is proved -/
def FnAt (P : Program) (w : World) (K : Frag) (mg : Str → Option Value) (base : Heap) (CX : CXT) (k : Nat) (f : Addr) (ps : List Str) (sp : Sp) : Prop := PySem.W.keepIn K (.ref f) = true ∧ ∃ fd, Binds K fd ps [] ∧ FnOk P w K mg base CX k f fd ps sp
section
variable {X : Cx} {k : Nat} {x : Str} {ps : List Str} {e : Expr} {es : List Expr} {tf : TE} {t : TA} {p pos : Pos} {W : WX}
/-- f(e, ..), f a local that holds a def -/
def tHeld (P : Program) (w : World) (K : Frag) (mg : Str → Option Value) (base : Heap) (CX : CXT) (k : Nat) (ps : List Str) (E : L2.St → XK) (tf : TE) (t : TA) : TE := fun σ H Q => tf σ H fun v H1 => ∃ f sp, v = .ref f ∧ FnAt P w K mg base CX k f ps sp ∧ t σ H1 fun vs H2 => sp vs H2 Q (E σ)
theorem pe_heldX (hr : Room k X.A) (tk : Takes X W) (hf : PE X (.Name x p) tf) (ha : PA X (e :: es) t)
    (he : starEach (e :: es) X.env = (false, eval e X.env) :: starEach es X.env := by rfl) (hpl : (backTo pos (starEach es X.env)).any (·.1) = false := by rfl) :
    PE X (.Call (.Name x p) (e :: es) [] pos) (tHeld X.prog X.w X.K X.mg X.base (L2.CX X.prog X.w) k ps (WE W) tf t) := by
  refine ⟨fun pins s σ H Q I h => wpAny_Call_Name_kw (thn (hf.run pins s σ H _ I h) fun u s1 hh => ?_)⟩
  obtain ⟨v, H1, I1, rv, f, sp, ev, ⟨kp, fd, b, F⟩, q⟩ := hh
  subst ev
  obtain rfl : u = Value.ref f := rv
  refine PySem.W.callWith_K (h₀ := X.base) I.ok.mod.kin kp (thn (ha.run pos pins s1 σ H1 _ I1 q) fun us s2 h2 => ?_) he hpl
  obtain ⟨vs, H2, I2, r, q2⟩ := h2
  exact ⟨I2.kIn, run_fnS F hr b (passAt tk σ) I2 r q2⟩
/-- the same where nothing is raised -/
theorem pe_held0 (hr : Room k X.A) (hf : PE X (.Name x p) tf) (ha : PA X (e :: es) t)
    (he : starEach (e :: es) X.env = (false, eval e X.env) :: starEach es X.env := by rfl) (hpl : (backTo pos (starEach es X.env)).any (·.1) = false := by rfl) :
    PE X (.Call (.Name x p) (e :: es) [] pos) (tHeld X.prog X.w X.K X.mg X.base CX0 k ps (fun _ => E0) tf t) := by
  refine ⟨fun pins s σ H Q I h => wpAny_Call_Name_kw (thn (hf.run pins s σ H _ I h) fun u s1 hh => ?_)⟩
  obtain ⟨v, H1, I1, rv, f, sp, ev, ⟨kp, fd, b, F⟩, q⟩ := hh
  subst ev
  obtain rfl : u = Value.ref f := rv
  refine PySem.W.callWith_K (h₀ := X.base) I.ok.mod.kin kp (thn (ha.run pos pins s1 σ H1 _ I1 q) fun us s2 h2 => ?_) he hpl
  obtain ⟨vs, H2, I2, r, q2⟩ := h2
  exact ⟨I2.kIn, run_fn (dvs := []) F hr b .nil pass0 I2 r (by rw [List.append_nil]; exact q2)⟩
end
/-- a written dict of defs -/
def FD (K : Frag) (w : World) (mg : Str → Option Value) (x : Str) (l : List (Str × Str)) : Prop :=
  ∃ d, mg x = some (.ref d) ∧ (∃ es n, KDict K w d es n) ∧ ∀ p ∈ l, ∃ f, PySem.W.nsIn K d p.1 = some (some (.ref f)) ∧ mg p.2 = some (.ref f)
def rdT : List (Str × Str) := [("ENTER", "read_enter"), ("SAY", "read_say"), ("SOLVE", "read_solve"), ("HEAR", "read_hear"), ("GIVE", "read_give"), ("PASS", "read_pass"), ("ADVANCE", "read_advance")]
/-- all readers of calls -/
structure Rs (w : World) (K : Frag) (mg : Str → Option Value) (base : Heap) (a : Ad) : Prop where
  enter : Dn Pg w K mg base (L2.CX Pg w) 15 "read_enter" ["words"] (spRdCal a K "enter")
  say : Dn Pg w K mg base (L2.CX Pg w) 15 "read_say" ["words"] (spRdCal a K "say")
  solve : Dn Pg w K mg base (L2.CX Pg w) 15 "read_solve" ["words"] (spRdCal a K "solve")
  hear : Dn Pg w K mg base (L2.CX Pg w) 15 "read_hear" ["words"] (spRdCal a K "hear")
  give : Dn Pg w K mg base (L2.CX Pg w) 15 "read_give" ["words"] (spRdCal a K "give")
  pass : Dn Pg w K mg base (L2.CX Pg w) 15 "read_pass" ["words"] (spRdCal a K "pass_on")
  adv : Dn Pg w K mg base (L2.CX Pg w) 15 "read_advance" ["words"] (spRdCal a K "advance")
section
variable {P : Program} {w : World} {K : Frag} {mg : Str → Option Value} {base : Heap} {CX : CXT} {k : Nat} {x : Str} {ps : List Str} {sp : Sp} {f : Addr}
theorem Dn.at_ (D : Dn P w K mg base CX k x ps sp) (h : mg x = some (.ref f)) : FnAt P w K mg base CX k f ps sp := by
  obtain ⟨g, fd, m, kp, b, F⟩ := D
  rw [h] at m
  have e : f = g := Value.ref.inj (Option.some.inj m)
  subst e
  exact ⟨kp, fd, b, F⟩
end
section
variable {a : Ad} {w : World} {K : Frag} {mg : Str → Option Value} {base : Heap}
theorem Rs.of (R : Rs w K mg base a) {d : Addr} (h : ∀ p ∈ rdT, ∃ f, PySem.W.nsIn K d p.1 = some (some (.ref f)) ∧ mg p.2 = some (.ref f)) (c : Cal) :
    ∃ f, PySem.W.nsIn K d c.word = some (some (.ref f)) ∧ FnAt Pg w K mg base (L2.CX Pg w) 15 f ["words"] (spRdCal a K c.key) := by
  cases c with
  | enter rs =>
    obtain ⟨f, h1, h2⟩ := h ("ENTER", "read_enter") (by decide +kernel)
    exact ⟨f, h1, R.enter.at_ h2⟩
  | say b f c t =>
    obtain ⟨f, h1, h2⟩ := h ("SAY", "read_say") (by decide +kernel)
    exact ⟨f, h1, R.say.at_ h2⟩
  | solve b f cs t =>
    obtain ⟨f, h1, h2⟩ := h ("SOLVE", "read_solve") (by decide +kernel)
    exact ⟨f, h1, R.solve.at_ h2⟩
  | hear m =>
    obtain ⟨f, h1, h2⟩ := h ("HEAR", "read_hear") (by decide +kernel)
    exact ⟨f, h1, R.hear.at_ h2⟩
  | give x y z =>
    obtain ⟨f, h1, h2⟩ := h ("GIVE", "read_give") (by decide +kernel)
    exact ⟨f, h1, R.give.at_ h2⟩
  | pass f k n s r =>
    obtain ⟨f, h1, h2⟩ := h ("PASS", "read_pass") (by decide +kernel)
    exact ⟨f, h1, R.pass.at_ h2⟩
  | adv ps =>
    obtain ⟨f, h1, h2⟩ := h ("ADVANCE", "read_advance") (by decide +kernel)
    exact ⟨f, h1, R.adv.at_ h2⟩
theorem x1_own {H H1 H2 : Hp} {p : Addr} (y : X0 H H1) (x : X1 p H1 H2) (n : H p = none) : X0 H H2 :=
  ⟨fun b o e _ q => x.keep b o (y.keep b o e id q) (fun z => by rw [z, n] at e; cases e) q, fun P t => x.tab P (y.tab P t), fun l e => y.free l (x.free l e)⟩
theorem rd_end {σ : L2.St} {H : Hp} {Q : VK} {E : L2.St → XK} {p wl : Addr} {i : Nat} {ws : List Str} (hi : σ[i]? = some (some (.ref p))) (h : Rd a H p wl ws) (k1 : ws = [] → Q .non H) (k2 : ws ≠ [] → ∀ d H', X1 p H H' → E σ (.ref a.ct) (some d) H') :
    tMethE a.cw "end" (spEnd a.cw a.ct) E (tVar i) tNil σ H Q := by
  obtain ⟨dx, j, h1⟩ := wd_ins h.wd
  exact ⟨_, hi, p, dx, _, rfl, h1, wF_no _ _, p, wl, ws, rfl, h.wd, k1, k2⟩
/-- read_call: the text of a call, or with a blank behind it -/
def spRdCall (a : Ad) (K : Frag) : Sp := fun vs H Q E => ∃ (c : Cal) (x : Str), vs = [.str x] ∧ Tb a H ∧ OkCal c ∧ ((x = cTx c ∧ ∀ v H', X0 H H' → Kp K H H' v c.d → Q v H') ∨ (x = cTx c ++ bk ∧ ∀ d H', X0 H H' → E (.ref a.ct) (some d) H'))
theorem kp_x0 {H0 H H' : Hp} {v : V} {d : PyData} (x : X0 H0 H) (h : Kp K H H' v d) : Kp K H0 H' v d := ⟨h.1, fun l xs ys e => h.2 l xs ys (x.keep l _ e id fun _ z => by cases z)⟩
theorem ok_read_call (T : TT a K mg base) (M : Ms w K mg base a) (R : Rs w K mg base a) (DR : FD K w mg "READERS" rdT) (DI : Mf K a.cw "__init__" "Words.__init__" s_Words_init) (D : Df K mg "read_call" s_read_call) :
    Dn Pg w K mg base (L2.CX Pg w) 20 "read_call" ["text"] (spRdCall a K) := by
  refine D.dn (fun _ _ _ _ _ _ us hl => match us, hl with | [_], _ => rfl) fun f fd F => ?_
  refine F.okX (k := 19) sc_read_call ?_ fun cdv A outer s H vs Q E hr h => ?_
  · rintro vs H Q E ⟨c, x, rfl, _⟩
    rfl
  have r8 : Room 8 _ := hr.mono (by decide)
  have nd := sc_read_call.nd
  obtain ⟨fI, fdI, mI, bI, GI⟩ := ok_winit (w := w) T DI
  have MK : Mk K a.cw fI := ⟨T.mkW, mI.at_, mI.fn, T.kpW⟩
  obtain ⟨rd, gR, ⟨es, n, KD⟩, hR⟩ := DR
  refine ⟨_, pss_cons (ps_set (i := 1) nd rfl (.inl rfl) (pe_make MK GI (hr.mono (by decide)) rfl T.gW bI .nil pass0 (pa_cons (pv 0) pa_nil)))
    (pss_cons (ps_set (i := 2) nd rfl (.inl rfl) (pe_md0 T.cW M.next (hr.mono (by decide)) (pv 1)))
    (pss_cons (ps_if (pt_cmpR (op_notIn_kd KD) (pv 2) (pe_gr gR) rfl) (pss_one ps_never) pss_nil)
    (pss_cons (ps_set (i := 3) nd rfl (.inl rfl) (pe_ix ix_kdict (pe_gr gR) (pv 2) (fun _ _ => rfl)))
    (pss_cons (ps_set (i := 4) nd rfl (.inl rfl) (pe_heldX (k := 15) (ps := ["words"]) (hr.mono (by decide)) (takes_of rfl rfl rfl rfl) (pv 3) (pa_cons (pv 1) pa_nil)))
    (pss_cons (ps_expr (pe_mx0 T.cW M.fin r8 (takes_of rfl rfl rfl rfl) (pv 1)))
    (pss_one (ps_ret (pv 4)))))))), ?_⟩
  obtain ⟨c, x, rfl, tb, hc, hx⟩ := h
  obtain ⟨wc1, wc2, wc3⟩ := ws_clean hc
  have lx := cTx_len hc
  obtain ⟨rest, hrest, ex, lx2⟩ : ∃ rest, Rest rest ∧ Txt.split x bk = c.ws ++ rest ∧ x.length ≤ 1000000 ∧ (rest = [] → ∀ v H', X0 H H' → Kp K H H' v c.d → Q v H') ∧ (rest = [Str.empty] → ∀ d H', X0 H H' → E (.ref a.ct) (some d) H') := by
    rcases hx with ⟨rfl, k⟩ | ⟨rfl, k⟩
    · refine ⟨[], .inl rfl, ?_, by omega, fun _ => k, fun z => absurd z.symm (List.cons_ne_nil _ _)⟩
      rw [List.append_nil]
      exact sp_split wc3 fun w hw => (wc1 w hw).sg
    · refine ⟨[Str.empty], .inr rfl, ?_, ?_, fun z => absurd z (List.cons_ne_nil _ _), fun _ => k⟩
      · show Txt.split (sp c.ws ++ bk) bk = _
        rw [sp_trail wc3]
        refine sp_split (by simp) fun w hw => ?_
        rcases List.mem_append.mp hw with z | z
        · exact (wc1 w z).sg
        · rw [List.mem_singleton.mp z]
          intro c hc
          cases hc
      · rw [PySem.Str.length_append]
        have : bk.length = 1 := by decide +kernel
        omega
  obtain ⟨lx2, k1, k2⟩ := lx2
  obtain ⟨f, hf1, hf2⟩ := R.of hR c
  refine ⟨_, rfl, fun p dx np ndx ne => ⟨p, dx, x, rfl, upd_same, lx2, ?_, fun wl H1 x1 w1 => ⟨rfl, ?_⟩⟩⟩
  · rw [ex, List.length_append]
    have : rest.length ≤ 1 := by rcases hrest with rfl | rfl <;> decide
    omega
  rw [ex] at w1
  have pd : p ≠ dx := Ne.symm ne
  have n2 : (upd H dx (.own p)) p = none := by
    rw [upd_ne pd]
    exact np
  have x01 : X0 H H1 := x1_own ((Ext.new ndx : X0 _ _).trans (Ext.new n2)) x1 np
  have r1 : Rd a H1 p wl (c.word :: (c.args ++ rest)) := ⟨w1, x01.tb tb⟩
  refine rd_next rfl r1 fun H2 x2 w2 => ?_
  have x02 : X0 H H2 := x1_own x01 x2 np
  refine ⟨_, rfl, _, _, rfl, rfl, hf1, _, rfl, if_f rfl ?_⟩
  refine ⟨_, rfl, rd, _, _, rfl, rfl, K31.KDict.dct KD (v := .ref f) hf1 rfl, ?_⟩
  refine ⟨_, rfl, f, _, rfl, hf2, _, rfl, p, wl, c, rest, rfl, w2, ⟨hc, rfl⟩, hrest, fun hn v H3 x3 w3 kv => ?_, fun hs e d H3 x3 => k2 e d H3 (x1_own x02 x3 np)⟩
  have x03 : X0 H H3 := x1_own x02 x3 np
  refine rd_end rfl w3 (fun e => ⟨_, rfl, k1 e v H3 x03 (kp_x0 x02 kv)⟩) fun e d H4 x4 => k2 (hrest.resolve_left e) d H4 (x1_own x03 x4 np)
end
end K31
/-! K31, part 11: x, *y = a tuple. -/
namespace K31
open PySem PySem.Spec PyProof.Rows L2 GxR
open PySem.W (Frag)
theorem ns_same {h : Heap} {L : Addr} {m m' : Str → Option Value} (a : h.Ns L m) (b : h.Ns L m') : m = m' := by
  obtain ⟨o, es, ep, ho, hd, _, q⟩ := a
  obtain ⟨o2, es2, ep2, ho2, hd2, _, q2⟩ := b
  rw [ho] at ho2
  cases ho2
  rw [hd] at hd2
  cases hd2
  funext x
  rw [← q x, ← q2 x]
def gStar1 (K : Frag) (t : TGs) : TG := fun v σ H Q => ∃ a x xs, v = .ref a ∧ SqT K H a (x :: xs) ∧ xs.length ≤ 1000 ∧ ∀ D, H D = none → t [x, .ref D] σ (upd H D (.lst xs)) Q
theorem pg_star1 {X : Cx} {n1 n2 : Str} {p1 p2 p3 pos : Pos} {k : Nat} {t : TGs} (hc : X.calm = true) (h : PGs X [.Name n1 p1, .Name n2 p2] t) 
    (hl : (assignEach [.Name n1 p1, .Starred (.Name n2 p2) p3] X.env).length = 2 := by rfl) (hst : (assignEach [.Name n1 p1, .Starred (.Name n2 p2) p3] X.env).findIdx? (·.1) = some 1 := by rfl)
    (hm : (assignEach [.Name n1 p1, .Starred (.Name n2 p2) p3] X.env).map (·.2) = (assignEach [.Name n1 p1, .Name n2 p2] X.env).map (·.2) := by rfl) : PG X (.Tuple [.Name n1 p1, .Starred (.Name n2 p2) p3] k pos) (gStar1 X.K t) := by
  refine ⟨fun pins s σ H v u Q I r hw => ?_⟩
  obtain ⟨a, x, xs, e1, hq, hz, hw⟩ := hw
  subst e1
  cases r
  obtain ⟨its, rv, ht, _⟩ := I.tuple hq
  cases rv with
  | cons rx rr =>
    rename_i ux us
    obtain ⟨m, hn, hl2⟩ := id I.loc
    have F : Fr X.base X.env.locals s.heap m := ⟨hn, I.bk, Nat.le_trans I.ok.bsz I.ok.above⟩
    have hs : us.length = xs.length := rr.length.symm
    refine PySem.W.kun_assignT (first := [ux]) (mids := us) (lasts := []) F (news_all (g := X.base) (L := X.env.locals) (h := s.heap)) ht (I.ok.hd hc) hl hst (by decide) (by simp) (by simp; omega) (by simp) (by simp) (by simp) fun D h' tk F' N' lt => ?_
    rw [hm]
    have hD := N' _ List.mem_cons_self
    have nD : ∀ b o, s.heap.get? b = some o → b ≠ D := fun b o e z => by
      by_cases hb : b = X.env.locals
      · exact hD.2.1 (by rw [← z, hb])
      · cases q : X.base.get? b with
        | some o2 =>
          rw [z] at q
          exact absurd (q.symm.trans hD.2.2) (by simp)
        | none =>
          have := lt _ (mem_allNews hb q e)
          rw [z] at this
          exact Nat.lt_irrefl _ this
    have kp : ∀ b o, b ≠ X.env.locals → s.heap.get? b = some o → h'.get? b = some o := fun b o hb e => by
      cases q : X.base.get? b with
      | some o2 =>
        have := I.bk b o2 q
        rw [e] at this
        rw [Option.some.inj this]
        exact F'.keep b o2 q
      | none => exact (N' _ (List.mem_cons_of_mem _ (mem_allNews hb q e))).1
    have hs0 : s.heap.get? D = none := by
      cases q : s.heap.get? D with
      | none => rfl
      | some o => exact absurd rfl (nD D o q)
    have hDn : H D = none := I.hok.gone hs0
    have at_ : ∀ b, b ≠ D → upd H D (.lst xs) b = H b := fun b hb => upd_ne hb
    have nH : ∀ b o, H b = some o → b ≠ D := fun b o e z => by
      rw [z, hDn] at e
      cases e
    have nL : ∀ b o, H b = some o → b ≠ X.env.locals := fun b o e z => by
      rw [z, I.free] at e
      cases e
    have J : L2.Inv X pins σ (upd H D (.lst xs)) { s with heap := h', gens := s.gens, drawn := s.drawn, toks := tk } := by
      refine I.step (ch := []) (fun b hb => absurd hb (by simp)) (fun b o hb _ _ e _ => kp b o hb e) (fun b o hb _ _ e _ => ⟨o.slots, kp b o hb e⟩) (fun b o _ e n => by rw [at_ b (nD b o e)]; exact n) (fun b o _ e => ?_)
        (fun b ys e => by rw [at_ b (nH b _ e)]; exact e) (fun b o ys e => by rw [at_ b (nH b _ e)]; exact e) (fun b ps e => ⟨#[], by rw [at_ b (nH b _ e), e]; simp⟩) (fun m' hm' => by rw [ns_same hm' hn]; exact F'.ns) (fun b ob e => ?_) I.bare
      · by_cases hb : b = X.env.locals
        · obtain ⟨ob, es, ep, ho, _⟩ := F'.ns
          rw [hb]
          exact ⟨ob, ho⟩
        · exact ⟨o, kp b o hb e⟩
      · by_cases hb : b = D
        · subst hb
          rw [upd_same] at e
          cases e
          exact ⟨Nat.le_trans hz (by decide), us, 0, rr, hD.1⟩
        · rw [at_ b hb] at e
          refine (I.hok b ob e).stay (fun y w hy q => kp y w ?_ q) (fun y q => by rw [at_ y (nH y _ q)]; exact q) fun y ys q => by rw [at_ y (nH y _ q)]; exact q
          rcases hy with z | z
          · rw [z]
            exact nL b ob e
          · exact nL y _ z
    exact h.run pins _ σ _ [x, .ref D] [ux, .ref D] Q J (.cons rx (.cons rfl .nil)) (hw D hDn)
end K31
/-! K31, defs 12: change_text, clearance_text, message_text, request_text. -/
namespace K31
open PySem PySem.Spec PyProof.Rows L2 GxR
open PySem.W (Frag)
open TL (tl)
/-! ### texts -/
theorem emp_app (x : Str) : Str.empty ++ x = x := TL.ext_tl (by rw [TL.tl_append]; rfl)
theorem app_emp (x : Str) : x ++ Str.empty = x := TL.ext_tl (by rw [TL.tl_append, tl_empty, List.append_nil])
theorem len_app (a b : Str) : (a ++ b).length = a.length + b.length := PySem.Str.length_append a b
theorem bk_len : bk.length = 1 := by decide +kernel
theorem sum_le {k : Nat} : ∀ {l : List Str}, (∀ w ∈ l, w.length ≤ k) → (l.map (·.length)).sum ≤ k * l.length
  | [], _ => Nat.zero_le _
  | w :: l, h => by
    have h1 := h w (List.mem_cons_self ..)
    have h2 := sum_le (l := l) fun x hx => h x (List.mem_cons_of_mem _ hx)
    rw [List.map_cons, List.sum_cons, List.length_cons, Nat.mul_add]
    omega
theorem join_ok {k n a : Nat} {l : List Str} (h : ∀ w ∈ l, w.length ≤ k) (hn : l.length ≤ n) (hb : k * n + n * a ≤ 16777216) : (l.map (·.length)).sum + l.length * a ≤ 16777216 := by
  have h1 := sum_le h
  have h2 : k * l.length ≤ k * n := Nat.mul_le_mul_left k hn
  have h3 : l.length * a ≤ n * a := Nat.mul_le_mul_right a hn
  omega
theorem sp_join (l : List Str) : Txt.join bk l = sp l := rfl
theorem sp_le {ws : List Str} {n : Nat} (h : ∀ w ∈ ws, Clean w) (hn : ws.length ≤ n) : (sp ws).length ≤ 11 * n := by
  have q := sp_len (k := 10) (ws := ws) fun w hw => (h w hw).hi
  omega
/-- the data of a name, of a tuple's parts, taken apart -/
theorem chg_rt {K : Frag} {H : Hp} {v : V} {ns : List Str} (h : Dp K H v (Chg.rt ns).d) : ∃ a b, v = .ref a ∧ SqT K H a [.str "route", .ref b] ∧ SqT K H b (ns.map V.str) := by
  obtain ⟨a, xs, rfl, h1, h2⟩ := dp_tup h
  obtain ⟨v1, r1, rfl, e1, h2⟩ := dpa_cons h2
  obtain ⟨v2, r2, rfl, e2, h2⟩ := dpa_cons h2
  obtain rfl := dpa_nil h2
  obtain rfl := dp_str e1
  obtain ⟨b, ys, rfl, h3, h4⟩ := dp_tup e2
  obtain rfl := dpa_strs h4
  exact ⟨a, b, rfl, h1, h3⟩
theorem chg_num {K : Frag} {H : Hp} {v : V} {k : Str} {n : Int} (h : Dp K H v (.tuple [.str k, .int n])) : ∃ a, v = .ref a ∧ SqT K H a [.str k, .int n] := by
  obtain ⟨a, xs, rfl, h1, h2⟩ := dp_tup h
  obtain ⟨v1, r1, rfl, e1, h2⟩ := dpa_cons h2
  obtain ⟨v2, r2, rfl, e2, h2⟩ := dpa_cons h2
  obtain rfl := dpa_nil h2
  obtain rfl := dp_str e1
  obtain rfl := dp_int e2
  exact ⟨a, rfl, h1⟩
theorem clr_parts {K : Frag} {H : Hp} {v : V} {c : Clr} (h : Dp K H v c.d) : ∃ a u, v = .ref a ∧ SqT K H a [.str c.fl, .int c.num, .int c.tk, u] ∧ Dp K H u c.ch.d := by
  obtain ⟨a, xs, rfl, h1, h2⟩ := dp_tup h
  obtain ⟨v1, r1, rfl, e1, h2⟩ := dpa_cons h2
  obtain ⟨v2, r2, rfl, e2, h2⟩ := dpa_cons h2
  obtain ⟨v3, r3, rfl, e3, h2⟩ := dpa_cons h2
  obtain ⟨v4, r4, rfl, e4, h2⟩ := dpa_cons h2
  obtain rfl := dpa_nil h2
  obtain rfl := dp_str e1
  obtain rfl := dp_int e2
  obtain rfl := dp_int e3
  exact ⟨a, v4, rfl, h1, e4⟩
/-! ### the promises: a text of words -/
def spTx (K : Frag) {α : Type} (dd : α → PyData) (ws : α → List Str) (ok : α → Prop) : Sp := fun vs H Q _ => ∃ v c, vs = [v] ∧ Dp K H v (dd c) ∧ ok c ∧ ∀ H', X0 H H' → Q (.str (sp (ws c))) H'
abbrev spChgT (K : Frag) : Sp := spTx K Chg.d Chg.ws OkChg
abbrev spClrT (K : Frag) : Sp := spTx K Clr.d Clr.ws OkClr
abbrev spMsgT (K : Frag) : Sp := spTx K Msg.d Msg.ws OkMsg
abbrev spReqT (K : Frag) : Sp := spTx K Req.d Req.ws OkReq
def chT : List (Str × Str) := [("level", "LEVEL"), ("speed", "SPEED"), ("route", "ROUTE")]
theorem num_log2 {n : Int} (h : OkNum n) : n.natAbs.log2 < 1920 := int_log (by unfold OkNum at h; omega) (by unfold OkNum at h; omega)
theorem int_log2 {n : Int} (h : OkInt n) : n.natAbs.log2 < 1920 := int_log (by unfold OkInt at h; omega) (by unfold OkInt at h; omega)
section
variable {a : Ad} {w : World} {K : Frag} {mg : Str → Option Value} {base : Heap}
theorem ok_change_text (T : TT a K mg base) (S : SD K w mg "WORDS_OF_CHANGES" chT []) (D : Df K mg "change_text" s_change_text) : Dn Pg w K mg base CX0 3 "change_text" ["change"] (spChgT K) := by
  refine D.dn (fun _ _ _ _ _ _ us hl => match us, hl with | [_], _ => rfl) fun f fd F => ?_
  refine F.ok (k := 2) sc_change_text ?_ fun cdv A outer s H vs Q E hr h => ?_
  · rintro vs H Q E ⟨v, c, rfl, _⟩
    rfl
  have nd := sc_change_text.nd
  obtain ⟨d, gd, ⟨es, n, KD⟩, hy, _⟩ := S
  refine ⟨_, pss_cons (ps_asg (pv 0) (pg_tup (by rfl) (pgs_cons (pg_name (i := 1) nd rfl (.inl rfl)) (pgs_cons (pg_name (i := 2) nd rfl (.inl rfl)) pgs_nil))))
    (pss_cons (ps_set (i := 3) nd rfl (.inl rfl) (pe_ifExp (pt_cmpR op_eq (pv 1) pe_str (nomark _)) (pe_join pe_str (pv 2)) (pe_callTy call_str_int (by rfl) (T.no "str") (by decide +kernel) (pa_cons (pv 2) pa_nil))))
    (pss_one (ps_ret (pe_joined (PJ.cons (pe_fmt (pe_ix ix_kdict (pe_gr gd) (pv 1) (fun _ _ => rfl))) (PJ.cons pe_str (PJ.cons (pe_fmt (pv 3)) PJ.nil))))))), ?_⟩
  obtain ⟨v, c, rfl, hd, hc, k⟩ := h
  have cl := chg_clean hc
  have lsp := sp_le cl.1 cl.2.1
  have fin : ∀ (up lo told : Str), (lo, up) ∈ chT → up.length ≤ 10 → told.length ≤ 100 → up ++ bk ++ told = sp c.ws → ∀ v2 v3, tRet (fun σ H Q => tJs [tFmt (tOp (rIxD K w) (tC (.ref d)) (tVar 1)), tC (.str bk), tFmt (tVar 3)] Str.empty σ H fun out H1 => Q (.str out) H1) { nx := fun _ H' => Q .non H', rt := Q } [some v2, some (.str lo), v3, some (.str told)] H := fun up lo told hm l1 l2 e v2 v3 => by
    obtain ⟨t, ht⟩ := hy _ hm
    refine ⟨_, rfl, d, lo, .str up, rfl, rfl, K31.KDict.dct KD (v := .str up) ht ⟨_, rfl⟩, .inl ⟨up, rfl, szl (by omega), ?_⟩⟩
    refine ⟨up, rfl, by rw [emp_app]; exact szl (by omega), bk, rfl, by rw [emp_app, len_app, bk_len]; exact szl (by omega), _, rfl, .inl ⟨told, rfl, szl (by omega), told, rfl, by rw [emp_app, len_app, len_app, bk_len]; exact szl (by omega), ?_⟩⟩
    rw [emp_app, e]
    exact k H (Ext.refl _ _)
  cases c with
  | lvl n =>
    obtain ⟨p, rfl, hq⟩ := chg_num hd
    have ln := num_len hc
    refine ⟨_, rfl, p, _, rfl, hq, rfl, _, _, rfl, _, _, rfl, rfl, _, rfl, rfl, _, rfl, if_f (by decide +kernel) ?_⟩
    exact ⟨_, rfl, n, rfl, num_log2 hc, fin "LEVEL" "level" (sI n) (by decide +kernel) (by decide +kernel) (by omega) (by rw [← sp_one (sI n)]; exact (sp_cons (w := "LEVEL") (v := sI n) (r := [])).symm) _ _⟩
  | spd n =>
    obtain ⟨p, rfl, hq⟩ := chg_num hd
    have ln := num_len hc
    refine ⟨_, rfl, p, _, rfl, hq, rfl, _, _, rfl, _, _, rfl, rfl, _, rfl, rfl, _, rfl, if_f (by decide +kernel) ?_⟩
    exact ⟨_, rfl, n, rfl, num_log2 hc, fin "SPEED" "speed" (sI n) (by decide +kernel) (by decide +kernel) (by omega) (by rw [← sp_one (sI n)]; exact (sp_cons (w := "SPEED") (v := sI n) (r := [])).symm) _ _⟩
  | rt ns =>
    obtain ⟨p, q, rfl, hq, hq2⟩ := chg_rt hd
    obtain ⟨h1, h2, h3⟩ := hc
    have lj := sp_le (ws := ns) (n := 6) (fun w hw => name_clean (h3 w hw)) h2
    refine ⟨_, rfl, p, _, rfl, hq, rfl, _, _, rfl, _, _, rfl, rfl, _, rfl, rfl, _, rfl, if_t (by decide +kernel) ?_⟩
    refine ⟨⟨_, rfl⟩, _, rfl, bk, q, ns, rfl, rfl, .inr hq2, join_ok (k := 5) (n := 6) (fun w hw => (name_len (h3 w hw)).2) h2 (by rw [bk_len]; decide), ?_⟩
    refine fin "ROUTE" "route" (sp ns) (by decide +kernel) (by decide +kernel) (by omega) ?_ _ _
    exact (sp_cons' (w := "ROUTE") (r := ns) (fun z => by rw [z] at h1; exact absurd h1 (by decide))).symm
end
end K31
/-! K31, defs 13: clearance_text, message_text, request_text. -/
namespace K31
open PySem PySem.Spec PyProof.Rows L2 GxR
open PySem.W (Frag)
open TL (tl)
theorem mid (x y z : Str) (w : Str) (h : x = bk ++ w ++ bk := by decide +kernel) : y ++ x ++ z = y ++ bk ++ (w ++ bk ++ z) := by
  rw [h]
  simp only [app_assoc]
theorem chg_ne {c : Chg} (h : OkChg c) : c.ws ≠ [] := fun z => by
  have := (chg_clean h).2.2
  rw [z] at this
  exact absurd this (by decide)
theorem clr_tx {c : Clr} (h : OkClr c) : Str.empty ++ c.fl ++ bk ++ sI c.num ++ " AT " ++ sI c.tk ++ bk ++ sp c.ch.ws = sp c.ws := by
  have e : (" AT " : Str) = bk ++ "AT" ++ bk := by decide +kernel
  show _ = sp (c.fl :: sI c.num :: "AT" :: sI c.tk :: c.ch.ws)
  rw [sp_cons, sp_cons, sp_cons, sp_cons' (chg_ne h.ch), emp_app, e]
  simp only [app_assoc]
section
variable {a : Ad} {w : World} {K : Frag} {mg : Str → Option Value} {base : Heap}
theorem ok_clearance_text (T : TT a K mg base) (S : SD K w mg "WORDS_OF_CHANGES" chT []) (DC : Df K mg "change_text" s_change_text) (D : Df K mg "clearance_text" s_clearance_text) : Dn Pg w K mg base CX0 5 "clearance_text" ["clearance"] (spClrT K) := by
  refine D.dn (fun _ _ _ _ _ _ us hl => match us, hl with | [_], _ => rfl) fun f fd F => ?_
  refine F.ok (k := 4) sc_clearance_text ?_ fun cdv A outer s H vs Q E hr h => ?_
  · rintro vs H Q E ⟨v, c, rfl, _⟩
    rfl
  have nd := sc_clearance_text.nd
  have C := ok_change_text T S DC
  refine ⟨_, pss_cons (ps_asg (pv 0) (pg_tup (by rfl) (pgs_cons (pg_name (i := 1) nd rfl (.inl rfl)) (pgs_cons (pg_name (i := 2) nd rfl (.inl rfl)) (pgs_cons (pg_name (i := 3) nd rfl (.inl rfl)) (pgs_cons (pg_name (i := 4) nd rfl (.inl rfl)) pgs_nil))))))
    (pss_one (ps_ret (pe_joined (PJ.cons (pe_fmt (pv 1)) (PJ.cons pe_str (PJ.cons (pe_fmt (pv 2)) (PJ.cons pe_str (PJ.cons (pe_fmt (pv 3)) (PJ.cons pe_str (PJ.cons (pe_fmt (pe_df C (hr.mono (by decide)) (pa_cons (pv 4) pa_nil))) PJ.nil)))))))))), ?_⟩
  obtain ⟨v, c, rfl, hd, hc, k⟩ := h
  obtain ⟨p, u, rfl, hq, hu⟩ := clr_parts hd
  have cl := chg_clean hc.ch
  have l4 := sp_le cl.1 cl.2.1
  have l1 := name_len hc.fl
  have l2 := num_len hc.num
  have l3 := num_len hc.tk
  have lA : (" AT " : Str).length = 4 := by decide +kernel
  refine ⟨_, rfl, p, _, rfl, hq, rfl, _, _, rfl, _, _, rfl, _, _, rfl, _, _, rfl, rfl, ?_⟩
  refine ⟨_, rfl, .inl ⟨c.fl, rfl, szl (by omega), _, rfl, szl (by simp only [emp_app, len_app]; omega), _, rfl, szl (by simp only [emp_app, len_app, bk_len]; omega), ?_⟩⟩
  refine ⟨_, rfl, .inr ⟨c.num, rfl, num_log2 hc.num, sI c.num, rfl, szl (by simp only [emp_app, len_app, bk_len]; omega), _, rfl, szl (by simp only [emp_app, len_app, bk_len]; omega), ?_⟩⟩
  refine ⟨_, rfl, .inr ⟨c.tk, rfl, num_log2 hc.tk, sI c.tk, rfl, szl (by simp only [emp_app, len_app, bk_len]; omega), _, rfl, szl (by simp only [emp_app, len_app, bk_len]; omega), ?_⟩⟩
  refine ⟨_, rfl, u, c.ch, rfl, hu, hc.ch, fun H1 x1 => .inl ⟨_, rfl, szl (by omega), _, rfl, szl (by simp only [emp_app, len_app, bk_len]; omega), ?_⟩⟩
  rw [clr_tx hc]
  exact k H1 x1
theorem ok_message_text (T : TT a K mg base) (S : SD K w mg "WORDS_OF_CHANGES" chT []) (SL : SD K w mg "LONG" lgT ["ask", "taken", "not"]) (SS : SD K w mg "SHORT" shT []) (DC : Df K mg "change_text" s_change_text) (DL : Df K mg "clearance_text" s_clearance_text) (D : Df K mg "message_text" s_message_text) :
    Dn Pg w K mg base CX0 7 "message_text" ["message"] (spMsgT K) := by
  refine D.dn (fun _ _ _ _ _ _ us hl => match us, hl with | [_], _ => rfl) fun f fd F => ?_
  refine F.ok (k := 6) sc_message_text ?_ fun cdv A outer s H vs Q E hr h => ?_
  · rintro vs H Q E ⟨v, c, rfl, _⟩
    rfl
  have nd := sc_message_text.nd
  have C := ok_clearance_text T S DC DL
  obtain ⟨ld, gL, ⟨es, n, KD⟩, hy, hno⟩ := SL
  obtain ⟨sd, gS, ⟨es2, n2, KD2⟩, hy2, _⟩ := SS
  refine ⟨_, pss_cons (ps_set (i := 1) nd rfl (.inl rfl) (pe_ix ix_tup (pv 0) pe_int (fun _ _ => rfl)))
    (pss_cons (ps_if (pt_cmpR (op_in_kd KD) (pv 1) (pe_gr gL) rfl) (pss_one (ps_ret (pe_joined (PJ.cons (pe_fmt (pe_ix ix_kdict (pe_gr gL) (pv 1) (fun _ _ => rfl))) (PJ.cons pe_str (PJ.cons (pe_fmt (pe_df C (hr.mono (by decide)) (pa_cons (pe_ix ix_tup (pv 0) pe_int (fun _ _ => rfl)) pa_nil))) PJ.nil)))))) pss_nil)
    (pss_one (ps_ret (pe_joined (PJ.cons (pe_fmt (pe_ix ix_kdict (pe_gr gS) (pv 1) (fun _ _ => rfl))) (PJ.cons pe_str (PJ.cons (pe_fmt (pe_ix ix_tup (pv 0) pe_int (fun _ _ => rfl))) (PJ.cons pe_str (PJ.cons (pe_fmt (pe_ix ix_tup (pv 0) pe_int (fun _ _ => rfl))) PJ.nil))))))))), ?_⟩
  obtain ⟨v, m, rfl, hd, hm, k⟩ := h
  cases m with
  | long kk c =>
    obtain ⟨p, xs, rfl, h1, h2⟩ := dp_tup hd
    obtain ⟨v1, r1, rfl, e1, h2⟩ := dpa_cons h2
    obtain ⟨v2, r2, rfl, e2, h2⟩ := dpa_cons h2
    obtain rfl := dpa_nil h2
    obtain rfl := dp_str e1
    obtain ⟨t, ht⟩ := hy _ (lk_mem kk)
    have cl := clr_clean hm
    have l2 := sp_le cl.1 cl.2
    have l1 : kk.up.length ≤ 10 := (lk_clean kk).hi
    refine ⟨_, rfl, p, _, _, _, rfl, rfl, h1, atI_nat (j := 0) rfl, ?_⟩
    refine ⟨_, rfl, _, _, rfl, rfl, ht, _, rfl, if_t rfl ?_⟩
    refine ⟨_, rfl, ld, kk.lo, .str kk.up, rfl, rfl, K31.KDict.dct KD (v := .str kk.up) ht ⟨_, rfl⟩, .inl ⟨_, rfl, szl (by omega), _, rfl, szl (by simp only [emp_app]; omega), _, rfl, szl (by simp only [emp_app, len_app, bk_len]; omega), ?_⟩⟩
    refine ⟨_, rfl, p, _, _, _, rfl, rfl, h1, atI_nat (j := 1) rfl, v2, c, rfl, e2, hm, fun H1 x1 => .inl ⟨_, rfl, szl (by omega), _, rfl, szl (by simp only [emp_app, len_app, bk_len]; omega), ?_⟩⟩
    rw [emp_app]
    have e : kk.up ++ bk ++ sp c.ws = sp (Msg.long kk c).ws := (sp_cons' (w := kk.up) (r := c.ws) (by unfold Clr.ws; simp)).symm
    rw [e]
    exact k H1 x1
  | short kk f n =>
    obtain ⟨p, xs, rfl, h1, h2⟩ := dp_tup hd
    obtain ⟨v1, r1, rfl, e1, h2⟩ := dpa_cons h2
    obtain ⟨v2, r2, rfl, e2, h2⟩ := dpa_cons h2
    obtain ⟨v3, r3, rfl, e3, h2⟩ := dpa_cons h2
    obtain rfl := dpa_nil h2
    obtain rfl := dp_str e1
    obtain rfl := dp_str e2
    obtain rfl := dp_int e3
    obtain ⟨t, ht⟩ := hy2 _ (sk_mem kk)
    have l1 : kk.up.length ≤ 10 := (sk_clean kk).hi
    have l2 := name_len hm.1
    have l3 := num_len hm.2
    refine ⟨_, rfl, p, _, _, _, rfl, rfl, h1, atI_nat (j := 0) rfl, ?_⟩
    refine ⟨_, rfl, _, _, rfl, rfl, hno _ (sk_no kk), _, rfl, if_f rfl ?_⟩
    refine ⟨_, rfl, sd, kk.lo, .str kk.up, rfl, rfl, K31.KDict.dct KD2 (v := .str kk.up) ht ⟨_, rfl⟩, .inl ⟨_, rfl, szl (by omega), _, rfl, szl (by simp only [emp_app]; omega), _, rfl, szl (by simp only [emp_app, len_app, bk_len]; omega), ?_⟩⟩
    refine ⟨_, rfl, p, _, _, _, rfl, rfl, h1, atI_nat (j := 1) rfl, .inl ⟨_, rfl, szl (by omega), _, rfl, szl (by simp only [emp_app, len_app, bk_len]; omega), _, rfl, szl (by simp only [emp_app, len_app, bk_len]; omega), ?_⟩⟩
    refine ⟨_, rfl, p, _, _, _, rfl, rfl, h1, atI_nat (j := 2) rfl, .inr ⟨n, rfl, num_log2 hm.2, sI n, rfl, szl (by simp only [emp_app, len_app, bk_len]; omega), ?_⟩⟩
    rw [emp_app]
    have e : kk.up ++ bk ++ f ++ bk ++ sI n = sp (Msg.short kk f n).ws := by
      show _ = sp [kk.up, f, sI n]
      rw [sp_cons, sp_cons, sp_one]
      simp only [app_assoc]
    rw [e]
    exact k H (Ext.refl _ _)
theorem req_parts {H : Hp} {v : V} {r : Req} (h : Dp K H v r.d) : ∃ a b, v = .ref a ∧ SqT K H a [.str r.fl, .ref b, .str r.st, .str r.go, .int r.lv, .int r.wt, .int r.tk, .int r.lt] ∧ SqT K H b (r.kd.map V.int) := by
  obtain ⟨a, xs, rfl, h1, h2⟩ := dp_tup h
  obtain ⟨v1, r1, rfl, e1, h2⟩ := dpa_cons h2
  obtain ⟨v2, r2, rfl, e2, h2⟩ := dpa_cons h2
  obtain ⟨v3, r3, rfl, e3, h2⟩ := dpa_cons h2
  obtain ⟨v4, r4, rfl, e4, h2⟩ := dpa_cons h2
  obtain ⟨v5, r5, rfl, e5, h2⟩ := dpa_cons h2
  obtain ⟨v6, r6, rfl, e6, h2⟩ := dpa_cons h2
  obtain ⟨v7, r7, rfl, e7, h2⟩ := dpa_cons h2
  obtain ⟨v8, r8, rfl, e8, h2⟩ := dpa_cons h2
  obtain rfl := dpa_nil h2
  obtain rfl := dp_str e1
  obtain rfl := dp_str e3
  obtain rfl := dp_str e4
  obtain rfl := dp_int e5
  obtain rfl := dp_int e6
  obtain rfl := dp_int e7
  obtain rfl := dp_int e8
  obtain ⟨b, ys, rfl, h3, h4⟩ := dp_tup e2
  obtain rfl := dpa_ints h4
  exact ⟨a, b, rfl, h1, h3⟩
theorem req_tx {r : Req} (h : OkReq r) : Str.empty ++ "FLIGHT " ++ r.fl ++ " KIND " ++ sp (r.kd.map sI) ++ " FROM " ++ r.st ++ " TO " ++ r.go ++ " AT " ++ sI r.lv ++ " WANTS " ++ sI r.wt ++ " TICK " ++ sI r.tk ++ " LATE " ++ sI r.lt = sp r.ws := by
  have e0 : ("FLIGHT " : Str) = "FLIGHT" ++ bk := by decide +kernel
  have e1 : (" KIND " : Str) = bk ++ "KIND" ++ bk := by decide +kernel
  have e2 : (" FROM " : Str) = bk ++ "FROM" ++ bk := by decide +kernel
  have e3 : (" TO " : Str) = bk ++ "TO" ++ bk := by decide +kernel
  have e4 : (" AT " : Str) = bk ++ "AT" ++ bk := by decide +kernel
  have e5 : (" WANTS " : Str) = bk ++ "WANTS" ++ bk := by decide +kernel
  have e6 : (" TICK " : Str) = bk ++ "TICK" ++ bk := by decide +kernel
  have e7 : (" LATE " : Str) = bk ++ "LATE" ++ bk := by decide +kernel
  have ne : r.kd.map sI ≠ [] := fun z => by
    have := congrArg List.length z
    rw [List.length_map, h.kn] at this
    cases this
  show _ = sp (("FLIGHT" : Str) :: r.fl :: ("KIND" : Str) :: (r.kd.map sI ++ ([("FROM" : Str), r.st, "TO", r.go, "AT", sI r.lv, "WANTS", sI r.wt, "TICK", sI r.tk, "LATE", sI r.lt] : List Str)))
  rw [sp_cons, sp_cons, sp_cons' (by simp), sp_app ne (by simp), emp_app, e0, e1, e2, e3, e4, e5, e6, e7]
  simp only [sp_cons, sp_one, app_assoc]
theorem ok_request_text (T : TT a K mg base) (D : Df K mg "request_text" s_request_text) : Dn Pg w K mg base CX0 5 "request_text" ["request"] (spReqT K) := by
  refine D.dn (fun _ _ _ _ _ _ us hl => match us, hl with | [_], _ => rfl) fun f fd F => ?_
  refine F.ok (k := 4) sc_request_text ?_ fun cdv A outer s H vs Q E hr h => ?_
  · rintro vs H Q E ⟨v, c, rfl, _⟩
    rfl
  have nd := sc_request_text.nd
  refine ⟨_, pss_cons (ps_asg (pv 0) (pg_tup (by rfl) (pgs_cons (pg_name (i := 1) nd rfl (.inl rfl)) (pgs_cons (pg_name (i := 2) nd rfl (.inl rfl)) (pgs_cons (pg_name (i := 3) nd rfl (.inl rfl)) (pgs_cons (pg_name (i := 4) nd rfl (.inl rfl))
      (pgs_cons (pg_name (i := 5) nd rfl (.inl rfl)) (pgs_cons (pg_name (i := 6) nd rfl (.inl rfl)) (pgs_cons (pg_name (i := 7) nd rfl (.inl rfl)) (pgs_cons (pg_name (i := 8) nd rfl (.inl rfl)) pgs_nil))))))))))
    (pss_cons (ps_set (i := 9) nd rfl (.inl rfl) (pe_join pe_str (pe_lc (own := [("number", 10)]) (g := gName 10) (tt := tYes) (by rfl) nd (pi_tup (pv 2)) (blkOk_by (own := [("number", 10)]) (N := ["request", "flight", "kind", "start", "goal", "level", "wanted", "tick", "late", "numbers", "number"]) (sc := defScope s_request_text) (by decide +kernel))
        (fun _ _ _ _ _ => pg_name (i := 10) nd rfl (.inl rfl)) (fun _ _ _ _ _ => pts_nil) (fun _ _ _ _ _ => pe_callTy call_str_int (by rfl) (T.no "str") (by decide +kernel) (pa_cons (pv 10) pa_nil)))))
    (pss_one (ps_ret (pe_joined (PJ.cons pe_str (PJ.cons (pe_fmt (pv 1)) (PJ.cons pe_str (PJ.cons (pe_fmt (pv 9)) (PJ.cons pe_str (PJ.cons (pe_fmt (pv 3)) (PJ.cons pe_str (PJ.cons (pe_fmt (pv 4)) (PJ.cons pe_str (PJ.cons (pe_fmt (pv 5))
      (PJ.cons pe_str (PJ.cons (pe_fmt (pv 6)) (PJ.cons pe_str (PJ.cons (pe_fmt (pv 7)) (PJ.cons pe_str (PJ.cons (pe_fmt (pv 8)) PJ.nil)))))))))))))))))))), ?_⟩
  obtain ⟨v, r, rfl, hd, hc, k⟩ := h
  obtain ⟨p, b, rfl, hq, hb⟩ := req_parts hd
  refine ⟨_, rfl, p, _, rfl, hq, rfl, _, _, rfl, _, _, rfl, _, _, rfl, _, _, rfl, _, _, rfl, _, _, rfl, _, _, rfl, _, _, rfl, rfl, ?_⟩
  refine ⟨⟨_, rfl⟩, _, rfl, b, rfl, ⟨_, hb⟩, fun l nl => lc_tup (K := K) (a := b) (xs := r.kd.map V.int) (fun i H' => X0 H H' ∧ H' l = some (.lst ((r.kd.take i).map fun n => V.str (sI n)))) ⟨Ext.new nl, upd_same⟩ (fun i H' _ hP => hP.1.sqT ns0 hb) (fun i x H' hi hP => ?_) (fun H' hP => ?_)⟩
  · obtain ⟨x1, hl⟩ := hP
    rw [List.getElem?_map] at hi
    obtain ⟨n, hn, rfl⟩ := Option.map_eq_some_iff.mp hi
    have on : OkNum n := hc.kd n (List.mem_of_getElem? hn)
    refine ⟨rfl, ?_⟩
    refine ⟨_, rfl, n, rfl, num_log2 on, _, hl, small1000 (by rw [List.length_map, List.length_take, hc.kn]; omega), Ext.ownL x1 nl hl, ?_⟩
    rw [upd_same, take_succ hn, List.map_append]
    rfl
  · obtain ⟨x1, hl⟩ := hP
    rw [List.length_map, List.take_length] at hl
    have cl := nums_clean hc.kd
    have l9 := sp_le cl (n := 5) (by rw [List.length_map, hc.kn]; exact Nat.le_refl _)
    have hl' : H' l = some (.lst ((r.kd.map sI).map V.str)) := by rw [hl, List.map_map]; rfl
    refine ⟨bk, l, r.kd.map sI, rfl, rfl, .inl (SqL.of hl'), join_ok (k := 10) (n := 5) (fun w hw => (cl w hw).hi) (by rw [List.length_map, hc.kn]; exact Nat.le_refl _) (by rw [bk_len]; decide), ?_⟩
    have l1 := name_len hc.fl
    have l2 := name_len hc.st
    have l3 := name_len hc.go
    have l4 := num_len hc.lv
    have l5 := num_len hc.wt
    have l6 := num_len hc.tk
    have l7 := num_len hc.lt
    have c0 : ("FLIGHT " : Str).length = 7 := by decide +kernel
    have c1 : (" KIND " : Str).length = 6 := by decide +kernel
    have c2 : (" FROM " : Str).length = 6 := by decide +kernel
    have c3 : (" TO " : Str).length = 4 := by decide +kernel
    have c4 : (" AT " : Str).length = 4 := by decide +kernel
    have c5 : (" WANTS " : Str).length = 7 := by decide +kernel
    have c6 : (" TICK " : Str).length = 6 := by decide +kernel
    have c7 : (" LATE " : Str).length = 6 := by decide +kernel
    refine ⟨_, rfl, szl (by simp only [emp_app]; omega), _, rfl, .inl ⟨r.fl, rfl, szl (by omega), _, rfl, szl (by simp only [emp_app, len_app]; omega), ?_⟩⟩
    refine ⟨_, rfl, szl (by simp only [emp_app, len_app]; omega), _, rfl, .inl ⟨sp (r.kd.map sI), rfl, szl (by omega), _, rfl, szl (by simp only [emp_app, len_app]; omega), ?_⟩⟩
    refine ⟨_, rfl, szl (by simp only [emp_app, len_app]; omega), _, rfl, .inl ⟨r.st, rfl, szl (by omega), _, rfl, szl (by simp only [emp_app, len_app]; omega), ?_⟩⟩
    refine ⟨_, rfl, szl (by simp only [emp_app, len_app]; omega), _, rfl, .inl ⟨r.go, rfl, szl (by omega), _, rfl, szl (by simp only [emp_app, len_app]; omega), ?_⟩⟩
    refine ⟨_, rfl, szl (by simp only [emp_app, len_app]; omega), _, rfl, .inr ⟨r.lv, rfl, num_log2 hc.lv, sI r.lv, rfl, szl (by simp only [emp_app, len_app]; omega), ?_⟩⟩
    refine ⟨_, rfl, szl (by simp only [emp_app, len_app]; omega), _, rfl, .inr ⟨r.wt, rfl, num_log2 hc.wt, sI r.wt, rfl, szl (by simp only [emp_app, len_app]; omega), ?_⟩⟩
    refine ⟨_, rfl, szl (by simp only [emp_app, len_app]; omega), _, rfl, .inr ⟨r.tk, rfl, num_log2 hc.tk, sI r.tk, rfl, szl (by simp only [emp_app, len_app]; omega), ?_⟩⟩
    refine ⟨_, rfl, szl (by simp only [emp_app, len_app]; omega), _, rfl, .inr ⟨r.lt, rfl, num_log2 hc.lt, sI r.lt, rfl, szl (by simp only [emp_app, len_app]; omega), ?_⟩⟩
    rw [req_tx hc]
    exact k H' x1
end
end K31
/-! K31, defs 14: the writers of calls. -/
namespace K31
open PySem PySem.Spec PyProof.Rows L2 GxR
open PySem.W (Frag)
open TL (tl)
abbrev bw : Str := " / "
theorem bw_eq : bw = bk ++ "/" ++ bk := by decide +kernel
theorem jn_one (s w : Str) : Txt.join s [w] = w := TL.ext_tl (by rw [TL.join_eq, TL.tl_join] <;> rfl)
theorem jn_cons {s w v : Str} {r : List Str} : Txt.join s (w :: v :: r) = w ++ s ++ Txt.join s (v :: r) := TL.ext_tl (by
  rw [TL.join_eq, TL.tl_join, TL.tl_append, TL.tl_append, TL.join_eq, TL.tl_join, List.append_assoc]
  rfl)
theorem slash_ne {l : List (List Str)} (h : ∀ p ∈ l, p ≠ []) (hl : l ≠ []) : slash l ≠ [] := by
  cases l with
  | nil => exact absurd rfl hl
  | cons p r =>
    rw [slash_cons]
    intro z
    exact h p (List.mem_cons_self ..) (List.append_eq_nil_iff.mp z).1
theorem bw_join : ∀ {l : List (List Str)}, l ≠ [] → (∀ p ∈ l, p ≠ []) → Txt.join bw (l.map sp) = sp (slash l)
  | [], h, _ => absurd rfl h
  | [p], _, _ => jn_one _ _
  | p :: q :: r, _, h => by
    have ih := bw_join (l := q :: r) (List.cons_ne_nil _ _) fun x hx => h x (List.mem_cons_of_mem _ hx)
    have ne := slash_ne (l := q :: r) (fun x hx => h x (List.mem_cons_of_mem _ hx)) (List.cons_ne_nil _ _)
    show Txt.join bw (sp p :: sp q :: r.map sp) = sp (p ++ (("/" : Str) :: slash (q :: r)))
    rw [jn_cons, sp_app (h p (List.mem_cons_self ..)) (List.cons_ne_nil _ _), sp_cons' ne, bw_eq]
    have ih' : Txt.join bw (sp q :: r.map sp) = sp (slash (q :: r)) := ih
    rw [← bw_eq, ih', bw_eq]
    simp only [app_assoc]
theorem req_ne (r : Req) : r.ws ≠ [] := List.cons_ne_nil _ _
/-- the promise of a call's writer -/
def spWr (K : Frag) (key : Str) : Sp := fun vs H Q _ => ∃ v c, vs = [v] ∧ Dp K H v (.list c.parts) ∧ (OkCal c ∧ c.key = key) ∧ ∀ H', X0 H H' → Q (.str (cTx c)) H'
theorem map_get {α : Type} {f : α → PyData} {l : List α} {i : Nat} {d : PyData} (h : (l.map f)[i]? = some d) : ∃ x, l[i]? = some x ∧ d = f x := by
  rw [List.getElem?_map] at h
  obtain ⟨x, h1, h2⟩ := Option.map_eq_some_iff.mp h
  exact ⟨x, h1, h2.symm⟩
section
variable {a : Ad} {w : World} {K : Frag} {mg : Str → Option Value} {base : Heap}
theorem ok_enter_text (T : TT a K mg base) (DR : Df K mg "request_text" s_request_text) (D : Df K mg "enter_text" s_enter_text) : Dn Pg w K mg base CX0 10 "enter_text" ["told"] (spWr K "enter") := by
  refine D.dn (fun _ _ _ _ _ _ us hl => match us, hl with | [_], _ => rfl) fun f fd F => ?_
  refine F.ok (k := 9) sc_enter_text ?_ fun cdv A outer s H vs Q E hr h => ?_
  · rintro vs H Q E ⟨v, c, rfl, _⟩
    rfl
  have nd := sc_enter_text.nd
  have R := ok_request_text (w := w) T DR
  obtain ⟨tb, gb⟩ := T.sBE
  refine ⟨_, pss_one (ps_ret (pe_op op_add_str pe_str (pe_join (pe_gs gb) (pe_lc (own := [("request", 1)]) (g := gName 1) (tt := tYes) (by rfl) nd (pi_list (pe_ix ix_list (pv 0) pe_int (fun _ _ => rfl))) (blkOk_by (own := [("request", 1)]) (N := ["told", "request"]) (sc := defScope s_enter_text) (by decide +kernel))
        (fun _ _ _ _ _ => pg_name (i := 1) nd rfl (.inl rfl)) (fun _ _ _ _ _ => pts_nil) (fun _ _ _ _ _ => pe_df R (hr.mono (by decide)) (pa_cons (pv 1) pa_nil)))))), ?_⟩
  obtain ⟨v, c, rfl, hd, ⟨hc, hk⟩, k⟩ := h
  obtain ⟨rs, rfl⟩ := key_enter hk
  obtain ⟨c1, c2, c3⟩ := hc
  obtain ⟨l0, xs0, rfl, h1, h2⟩ := dp_lst hd
  obtain ⟨v1, r1, rfl, e1, h2⟩ := dpa_cons h2
  obtain rfl := dpa_nil h2
  obtain ⟨l, xs, rfl, h3, h4⟩ := dp_lst e1
  have lx : xs.length = rs.length := by rw [dpa_len h4, List.length_map]
  refine ⟨⟨_, rfl⟩, _, rfl, l0, _, _, _, rfl, rfl, h1, atI_nat (j := 0) rfl, l, rfl, ⟨_, h3⟩, fun D nD => lc_list (K := K) (a := l) (xs := xs) (fun i H' => X0 H H' ∧ H' D = some (.lst ((rs.take i).map fun r => V.str (sp r.ws)))) ⟨Ext.new nD, upd_same⟩ (fun i H' _ hP => hP.1.sqL ns0 h3) (fun i x H' hi hP => ?_) (fun H' hP => ?_)⟩
  · obtain ⟨x1, hl⟩ := hP
    obtain ⟨d, hd1, hd2⟩ := dpa_get h4 hi
    obtain ⟨r, hr1, rfl⟩ := map_get hd1
    refine ⟨rfl, ?_⟩
    refine ⟨_, rfl, x, r, rfl, x1.dp0 hd2, c3 r (List.mem_of_getElem? hr1), fun H2 x2 => ?_⟩
    have hl2 := x2.keep _ _ hl id (fun _ z => by cases z)
    refine ⟨_, hl2, small1000 (by rw [List.length_map, List.length_take]; omega), Ext.ownL (x1.trans x2) nD hl2, ?_⟩
    rw [upd_same, take_succ hr1, List.map_append]
    rfl
  · obtain ⟨x1, hl⟩ := hP
    rw [lx, List.take_length] at hl
    have hl' : H' D = some (.lst (((rs.map Req.ws).map sp).map V.str)) := by rw [hl, List.map_map, List.map_map]; rfl
    have lb : ∀ w ∈ (rs.map Req.ws).map sp, w.length ≤ 220 := fun w hw => by
      rw [List.map_map] at hw
      obtain ⟨r, hr1, rfl⟩ := List.mem_map.mp hw
      have q := req_clean (c3 r hr1)
      exact sp_le q.1 (n := 20) (Nat.le_of_eq q.2)
    have ln : ((rs.map Req.ws).map sp).length = rs.length := by rw [List.length_map, List.length_map]
    refine ⟨bw, D, (rs.map Req.ws).map sp, rfl, rfl, .inl (SqL.of hl'), join_ok (k := 220) (n := 3) lb (by rw [ln]; exact c2) (by decide +kernel), ?_⟩
    have ne : rs.map Req.ws ≠ [] := fun z => by
      have := congrArg List.length z
      rw [List.length_map] at this
      rw [this] at c1
      exact absurd c1 (by decide)
    rw [bw_join ne fun p hp => by
      obtain ⟨r, _, rfl⟩ := List.mem_map.mp hp
      exact req_ne r]
    have e : ("ENTER " : Str) ++ sp (slash (rs.map Req.ws)) = cTx (.enter rs) := by
      show _ = sp (("ENTER" : Str) :: slash (rs.map Req.ws))
      rw [sp_cons' (slash_ne (fun p hp => by
        obtain ⟨r, _, rfl⟩ := List.mem_map.mp hp
        exact req_ne r) ne), show ("ENTER " : Str) = "ENTER" ++ bk from by decide +kernel]
    have lc := cTx_len (c := .enter rs) ⟨c1, c2, c3⟩
    refine ⟨_, _, rfl, rfl, ?_, ?_⟩
    · rw [← len_app, e]
      exact szl (by omega)
    · rw [e]
      exact k H' x1
theorem ok_say_text (T : TT a K mg base) (S : SD K w mg "WORDS_OF_CHANGES" chT []) (DC : Df K mg "change_text" s_change_text) (D : Df K mg "say_text" s_say_text) : Dn Pg w K mg base CX0 10 "say_text" ["told"] (spWr K "say") := by
  refine D.dn (fun _ _ _ _ _ _ us hl => match us, hl with | [_], _ => rfl) fun f fd F => ?_
  refine F.ok (k := 9) sc_say_text ?_ fun cdv A outer s H vs Q E hr h => ?_
  · rintro vs H Q E ⟨v, c, rfl, _⟩
    rfl
  have nd := sc_say_text.nd
  have C := ok_change_text T S DC
  refine ⟨_, pss_cons (ps_asg (pv 0) (pg_lst (by rfl) (pgs_cons (pg_name (i := 1) nd rfl (.inl rfl)) (pgs_cons (pg_name (i := 2) nd rfl (.inl rfl)) (pgs_cons (pg_name (i := 3) nd rfl (.inl rfl)) (pgs_cons (pg_name (i := 4) nd rfl (.inl rfl)) pgs_nil))))))
    (pss_one (ps_ret (pe_joined (PJ.cons pe_str (PJ.cons (pe_fmt (pv 1)) (PJ.cons pe_str (PJ.cons (pe_fmt (pv 2)) (PJ.cons pe_str (PJ.cons (pe_fmt (pv 4)) (PJ.cons pe_str (PJ.cons (pe_fmt (pe_df C (hr.mono (by decide)) (pa_cons (pv 3) pa_nil))) PJ.nil))))))))))), ?_⟩
  obtain ⟨v, c, rfl, hd, ⟨hc, hk⟩, k⟩ := h
  obtain ⟨b, f, ch, t, rfl⟩ := key_say hk
  have hc0 := hc
  obtain ⟨c1, c2, c3, c4⟩ := hc
  obtain ⟨l0, xs0, rfl, h1, h2⟩ := dp_lst hd
  obtain ⟨v1, r1, rfl, e1, h2⟩ := dpa_cons h2
  obtain ⟨v2, r2, rfl, e2, h2⟩ := dpa_cons h2
  obtain ⟨v3, r3, rfl, e3, h2⟩ := dpa_cons h2
  obtain ⟨v4, r4, rfl, e4, h2⟩ := dpa_cons h2
  obtain rfl := dpa_nil h2
  obtain rfl := dp_str e1
  obtain rfl := dp_str e2
  obtain rfl := dp_int e4
  have l1 := name_len c1
  have l2 := name_len c2
  have l3 := num_len c4
  have cl := chg_clean c3
  have l4 := sp_le cl.1 cl.2.1
  have lS : ("SAY " : Str).length = 4 := by decide +kernel
  refine ⟨_, rfl, l0, _, rfl, h1, rfl, _, _, rfl, _, _, rfl, _, _, rfl, _, _, rfl, rfl, ?_⟩
  refine ⟨_, rfl, szl (by simp only [emp_app]; omega), _, rfl, .inl ⟨b, rfl, szl (by omega), _, rfl, szl (by simp only [emp_app, len_app]; omega), _, rfl, szl (by simp only [emp_app, len_app, bk_len]; omega), ?_⟩⟩
  refine ⟨_, rfl, .inl ⟨f, rfl, szl (by omega), _, rfl, szl (by simp only [emp_app, len_app, bk_len]; omega), _, rfl, szl (by simp only [emp_app, len_app, bk_len]; omega), ?_⟩⟩
  refine ⟨_, rfl, .inr ⟨t, rfl, num_log2 c4, sI t, rfl, szl (by simp only [emp_app, len_app, bk_len]; omega), _, rfl, szl (by simp only [emp_app, len_app, bk_len]; omega), ?_⟩⟩
  refine ⟨_, rfl, v3, ch, rfl, e3, c3, fun H1 x1 => .inl ⟨_, rfl, szl (by omega), _, rfl, szl (by simp only [emp_app, len_app, bk_len]; omega), ?_⟩⟩
  have e : Str.empty ++ "SAY " ++ b ++ bk ++ f ++ bk ++ sI t ++ bk ++ sp ch.ws = cTx (.say b f ch t) := by
    show _ = sp (("SAY" : Str) :: b :: f :: sI t :: ch.ws)
    rw [sp_cons, sp_cons, sp_cons, sp_cons' (chg_ne c3), emp_app, show ("SAY " : Str) = "SAY" ++ bk from by decide +kernel]
    simp only [app_assoc]
  rw [e]
  exact k H1 x1
theorem ok_hear_text (T : TT a K mg base) (S : SD K w mg "WORDS_OF_CHANGES" chT []) (SL : SD K w mg "LONG" lgT ["ask", "taken", "not"]) (SS : SD K w mg "SHORT" shT []) (DC : Df K mg "change_text" s_change_text) (DL : Df K mg "clearance_text" s_clearance_text) (DM : Df K mg "message_text" s_message_text)
    (D : Df K mg "hear_text" s_hear_text) : Dn Pg w K mg base CX0 10 "hear_text" ["told"] (spWr K "hear") := by
  refine D.dn (fun _ _ _ _ _ _ us hl => match us, hl with | [_], _ => rfl) fun f fd F => ?_
  refine F.ok (k := 9) sc_hear_text ?_ fun cdv A outer s H vs Q E hr h => ?_
  · rintro vs H Q E ⟨v, c, rfl, _⟩
    rfl
  have C := ok_message_text T S SL SS DC DL DM
  refine ⟨_, pss_one (ps_ret (pe_op op_add_str pe_str (pe_df C (hr.mono (by decide)) (pa_cons (pe_ix ix_list (pv 0) pe_int (fun _ _ => rfl)) pa_nil)))), ?_⟩
  obtain ⟨v, c, rfl, hd, ⟨hc, hk⟩, k⟩ := h
  obtain ⟨m, rfl⟩ := key_hear hk
  obtain ⟨l0, xs0, rfl, h1, h2⟩ := dp_lst hd
  obtain ⟨v1, r1, rfl, e1, h2⟩ := dpa_cons h2
  obtain rfl := dpa_nil h2
  have e : ("HEAR " : Str) ++ sp m.ws = cTx (.hear m) := by
    show _ = sp (("HEAR" : Str) :: m.ws)
    rw [sp_cons' (by cases m <;> exact List.cons_ne_nil _ _), show ("HEAR " : Str) = "HEAR" ++ bk from by decide +kernel]
  have lc := cTx_len (c := .hear m) hc
  refine ⟨_, rfl, l0, _, _, _, rfl, rfl, h1, atI_nat (j := 0) rfl, v1, m, rfl, e1, hc, fun H1 x1 => ⟨_, _, rfl, rfl, ?_, ?_⟩⟩
  · rw [← len_app, e]
    exact szl (by omega)
  · rw [e]
    exact k H1 x1
theorem ok_give_text (D : Df K mg "give_text" s_give_text) : Dn Pg w K mg base CX0 10 "give_text" ["told"] (spWr K "give") := by
  refine D.dn (fun _ _ _ _ _ _ us hl => match us, hl with | [_], _ => rfl) fun f fd F => ?_
  refine F.ok (k := 9) sc_give_text ?_ fun cdv A outer s H vs Q E hr h => ?_
  · rintro vs H Q E ⟨v, c, rfl, _⟩
    rfl
  refine ⟨_, pss_one (ps_ret (pe_op op_add_str pe_str (pe_join pe_str (pv 0)))), ?_⟩
  obtain ⟨v, c, rfl, hd, ⟨hc, hk⟩, k⟩ := h
  obtain ⟨x, y, z, rfl⟩ := key_give hk
  obtain ⟨l0, xs0, rfl, h1, h2⟩ := dp_lst hd
  have h2 : DpAll K H xs0 (([x, y, z] : List Str).map .str) := h2
  obtain rfl := dpa_strs h2
  have e : ("GIVE " : Str) ++ sp [x, y, z] = cTx (.give x y z) := by
    show _ = sp (("GIVE" : Str) :: [x, y, z])
    rw [sp_cons (w := ("GIVE" : Str)) (v := x) (r := [y, z]), show ("GIVE " : Str) = "GIVE" ++ bk from by decide +kernel]
  have lc := cTx_len (c := .give x y z) hc
  obtain ⟨c1, c2, c3⟩ := hc
  have all3 : ∀ w ∈ [x, y, z], w.length ≤ 5 := all_cons (name_len c1).2 (all_cons (name_len c2).2 (all_cons (name_len c3).2 all_nil))
  refine ⟨⟨_, rfl⟩, _, rfl, bk, l0, [x, y, z], rfl, rfl, .inl h1, join_ok (k := 5) (n := 3) all3 (Nat.le_refl 3) (by rw [bk_len]; decide), _, _, rfl, rfl, ?_, ?_⟩
  · rw [← len_app]
    show ("GIVE " ++ sp [x, y, z]).length ≤ _
    rw [e]
    exact szl (by omega)
  · show Q (.str ("GIVE " ++ sp [x, y, z])) H
    rw [e]
    exact k H (Ext.refl _ _)
theorem ok_pass_text (D : Df K mg "pass_text" s_pass_text) : Dn Pg w K mg base CX0 10 "pass_text" ["told"] (spWr K "pass_on") := by
  refine D.dn (fun _ _ _ _ _ _ us hl => match us, hl with | [_], _ => rfl) fun f fd F => ?_
  refine F.ok (k := 9) sc_pass_text ?_ fun cdv A outer s H vs Q E hr h => ?_
  · rintro vs H Q E ⟨v, c, rfl, _⟩
    rfl
  have nd := sc_pass_text.nd
  refine ⟨_, pss_cons (ps_asg (pv 0) (pg_lst (by rfl) (pgs_cons (pg_name (i := 1) nd rfl (.inl rfl)) (pgs_cons (pg_tup (by rfl) (pgs_cons (pg_name (i := 2) nd rfl (.inl rfl)) (pgs_cons (pg_name (i := 3) nd rfl (.inl rfl)) (pgs_cons (pg_name (i := 4) nd rfl (.inl rfl)) (pgs_cons (pg_name (i := 5) nd rfl (.inl rfl)) pgs_nil))))) pgs_nil))))
    (pss_one (ps_ret (pe_joined (PJ.cons pe_str (PJ.cons (pe_fmt (pv 1)) (PJ.cons pe_str (PJ.cons (pe_fmt (pe_upper (pv 2))) (PJ.cons pe_str (PJ.cons (pe_fmt (pv 3)) (PJ.cons pe_str (PJ.cons (pe_fmt (pv 4)) (PJ.cons pe_str (PJ.cons (pe_fmt (pv 5)) PJ.nil))))))))))))), ?_⟩
  obtain ⟨v, c, rfl, hd, ⟨hc, hk⟩, k⟩ := h
  obtain ⟨f, kk, n, s', r, rfl⟩ := key_pass_on hk
  obtain ⟨c1, c2, c3, c4⟩ := hc
  obtain ⟨l0, xs0, rfl, h1, h2⟩ := dp_lst hd
  obtain ⟨v1, r1, rfl, e1, h2⟩ := dpa_cons h2
  obtain ⟨v2, r2, rfl, e2, h2⟩ := dpa_cons h2
  obtain rfl := dpa_nil h2
  obtain rfl := dp_str e1
  obtain ⟨b, ys, rfl, h3, h4⟩ := dp_tup e2
  obtain ⟨u1, q1, rfl, f1, h4⟩ := dpa_cons h4
  obtain ⟨u2, q2, rfl, f2, h4⟩ := dpa_cons h4
  obtain ⟨u3, q3, rfl, f3, h4⟩ := dpa_cons h4
  obtain ⟨u4, q4, rfl, f4, h4⟩ := dpa_cons h4
  obtain rfl := dpa_nil h4
  obtain rfl := dp_str f1
  obtain rfl := dp_int f2
  obtain rfl := dp_str f3
  obtain rfl := dp_str f4
  have l1 := name_len c1
  have l2 := num_len c2
  have l3 := name_len c3
  have l4 := name_len c4
  have lS : ("PASS " : Str).length = 5 := by decide +kernel
  obtain ⟨U, hU⟩ : ∃ U, (if kk then ("TOOK" : Str) else "GIVE") = U := ⟨_, rfl⟩
  have lU : U.length = 4 := by rw [← hU]; cases kk <;> decide +kernel
  have eU : Txt.upper (if kk then ("took" : Str) else "give") = U := by rw [← hU]; cases kk <;> decide +kernel
  refine ⟨_, rfl, l0, _, rfl, h1, rfl, _, _, rfl, _, _, rfl, ⟨b, _, rfl, h3, rfl, _, _, rfl, _, _, rfl, _, _, rfl, _, _, rfl, rfl, rfl, ?_⟩⟩
  refine ⟨_, rfl, szl (by simp only [emp_app]; omega), _, rfl, .inl ⟨f, rfl, szl (by omega), _, rfl, szl (by simp only [emp_app, len_app]; omega), _, rfl, szl (by simp only [emp_app, len_app, bk_len]; omega), ?_⟩⟩
  refine ⟨_, rfl, ⟨_, rfl⟩, _, rfl, rfl, (by cases kk <;> decide +kernel), ?_⟩
  rw [eU]
  refine .inl ⟨U, rfl, szl (by omega), U, rfl, szl (by simp only [emp_app, len_app, bk_len]; omega), _, rfl, szl (by simp only [emp_app, len_app, bk_len]; omega), ?_⟩
  refine ⟨_, rfl, .inr ⟨n, rfl, num_log2 c2, sI n, rfl, szl (by simp only [emp_app, len_app, bk_len]; omega), _, rfl, szl (by simp only [emp_app, len_app, bk_len]; omega), ?_⟩⟩
  refine ⟨_, rfl, .inl ⟨s', rfl, szl (by omega), s', rfl, szl (by simp only [emp_app, len_app, bk_len]; omega), _, rfl, szl (by simp only [emp_app, len_app, bk_len]; omega), ?_⟩⟩
  refine ⟨_, rfl, .inl ⟨r, rfl, szl (by omega), r, rfl, szl (by simp only [emp_app, len_app, bk_len]; omega), ?_⟩⟩
  have e : Str.empty ++ "PASS " ++ f ++ bk ++ U ++ bk ++ sI n ++ bk ++ s' ++ bk ++ r = cTx (.pass f kk n s' r) := by
    show _ = sp [("PASS" : Str), f, (if kk then ("TOOK" : Str) else "GIVE"), sI n, s', r]
    rw [hU, sp_cons, sp_cons, sp_cons, sp_cons, sp_cons, sp_one, emp_app, show ("PASS " : Str) = "PASS" ++ bk from by decide +kernel]
    simp only [app_assoc]
  rw [e]
  exact k H (Ext.refl _ _)
end
end K31
/-! K31, defs 15: solve_text, advance_text, call_text. -/
namespace K31
open PySem PySem.Spec PyProof.Rows L2 GxR
open PySem.W (Frag)
open TL (tl)
theorem chs_ne {cs : List Chg} (h : ∀ c ∈ cs, OkChg c) : ∀ p ∈ cs.map Chg.ws, p ≠ [] := fun p hp => by
  obtain ⟨c, hc, rfl⟩ := List.mem_map.mp hp
  exact chg_ne (h c hc)
section
variable {a : Ad} {w : World} {K : Frag} {mg : Str → Option Value} {base : Heap}
theorem ok_solve_text (T : TT a K mg base) (S : SD K w mg "WORDS_OF_CHANGES" chT []) (DC : Df K mg "change_text" s_change_text) (D : Df K mg "solve_text" s_solve_text) : Dn Pg w K mg base CX0 10 "solve_text" ["told"] (spWr K "solve") := by
  refine D.dn (fun _ _ _ _ _ _ us hl => match us, hl with | [_], _ => rfl) fun f fd F => ?_
  refine F.ok (k := 9) sc_solve_text ?_ fun cdv A outer s H vs Q E hr h => ?_
  · rintro vs H Q E ⟨v, c, rfl, _⟩
    rfl
  have nd := sc_solve_text.nd
  have C := ok_change_text T S DC
  obtain ⟨tb, gb⟩ := T.sBE
  refine ⟨_, pss_cons (ps_asg (pv 0) (pg_lst (by rfl) (pgs_cons (pg_name (i := 1) nd rfl (.inl rfl)) (pgs_cons (pg_name (i := 2) nd rfl (.inl rfl)) (pgs_cons (pg_name (i := 3) nd rfl (.inl rfl)) (pgs_cons (pg_name (i := 4) nd rfl (.inl rfl)) pgs_nil))))))
    (pss_cons (ps_set (i := 5) nd rfl (.inl rfl) (pe_joined (PJ.cons pe_str (PJ.cons (pe_fmt (pv 1)) (PJ.cons pe_str (PJ.cons (pe_fmt (pv 2)) (PJ.cons pe_str (PJ.cons (pe_fmt (pv 4)) PJ.nil))))))))
    (pss_cons (ps_if (pt_not (pt_truth (pv 3) (by intro _; rfl))) (pss_one (ps_ret (pv 5))) pss_nil)
    (pss_one (ps_ret (pe_op op_add_str (pe_op op_add_str (pv 5) pe_str) (pe_join (pe_gs gb) (pe_lc (own := [("change", 6)]) (g := gName 6) (tt := tYes) (by rfl) nd (pi_list (pv 3)) (blkOk_by (own := [("change", 6)]) (N := ["told", "by", "flight", "changes", "tick", "head", "change"]) (sc := defScope s_solve_text) (by decide +kernel))
        (fun _ _ _ _ _ => pg_name (i := 6) nd rfl (.inl rfl)) (fun _ _ _ _ _ => pts_nil) (fun _ _ _ _ _ => pe_df C (hr.mono (by decide)) (pa_cons (pv 6) pa_nil))))))))), ?_⟩
  obtain ⟨v, c, rfl, hd, ⟨hc, hk⟩, k⟩ := h
  obtain ⟨b, f, cs, t, rfl⟩ := key_solve hk
  have lc := cTx_len hc
  obtain ⟨c1, c2, c3, c4, c5⟩ := hc
  obtain ⟨l0, xs0, rfl, h1, h2⟩ := dp_lst hd
  obtain ⟨v1, r1, rfl, e1, h2⟩ := dpa_cons h2
  obtain ⟨v2, r2, rfl, e2, h2⟩ := dpa_cons h2
  obtain ⟨v3, r3, rfl, e3, h2⟩ := dpa_cons h2
  obtain ⟨v4, r4, rfl, e4, h2⟩ := dpa_cons h2
  obtain rfl := dpa_nil h2
  obtain rfl := dp_str e1
  obtain rfl := dp_str e2
  obtain rfl := dp_int e4
  obtain ⟨l, xs, rfl, h3, h4⟩ := dp_lst e3
  have l1 := name_len c1
  have l2 := name_len c2
  have l3 := num_len c5
  have lS : ("SOLVE " : Str).length = 6 := by decide +kernel
  have lx : xs.length = cs.length := by rw [dpa_len h4, List.length_map]
  refine ⟨_, rfl, l0, _, rfl, h1, rfl, _, _, rfl, _, _, rfl, _, _, rfl, _, _, rfl, rfl, ?_⟩
  refine ⟨_, rfl, szl (by simp only [emp_app]; omega), _, rfl, .inl ⟨b, rfl, szl (by omega), _, rfl, szl (by simp only [emp_app, len_app]; omega), _, rfl, szl (by simp only [emp_app, len_app, bk_len]; omega), ?_⟩⟩
  refine ⟨_, rfl, .inl ⟨f, rfl, szl (by omega), _, rfl, szl (by simp only [emp_app, len_app, bk_len]; omega), _, rfl, szl (by simp only [emp_app, len_app, bk_len]; omega), ?_⟩⟩
  refine ⟨_, rfl, .inr ⟨t, rfl, num_log2 c5, sI t, rfl, szl (by simp only [emp_app, len_app, bk_len]; omega), ?_⟩⟩
  have e : Str.empty ++ "SOLVE " ++ b ++ bk ++ f ++ bk ++ sI t = sp [("SOLVE" : Str), b, f, sI t] := by
    rw [sp_cons, sp_cons, sp_cons, sp_one, emp_app, show ("SOLVE " : Str) = "SOLVE" ++ bk from by decide +kernel]
    simp only [app_assoc]
  rw [e]
  cases cs with
  | nil =>
    obtain rfl := dpa_nil h4
    exact ⟨_, rfl, false, .inl ⟨_, h3, rfl⟩, if_t rfl ⟨_, rfl, k H (Ext.refl _ _)⟩⟩
  | cons c0 cs =>
    obtain ⟨x0, xr, rfl, _⟩ := dpa_cons h4
    refine ⟨_, rfl, true, .inl ⟨_, h3, rfl⟩, if_f rfl ?_⟩
    have ne := slash_ne (chs_ne c4) (List.cons_ne_nil _ _)
    have eT : sp [("SOLVE" : Str), b, f, sI t] ++ bk ++ sp (slash ((c0 :: cs).map Chg.ws)) = cTx (.solve b f (c0 :: cs) t) := (sp_app (a := [("SOLVE" : Str), b, f, sI t]) (List.cons_ne_nil _ _) ne).symm
    have lT := congrArg PySem.Str.length eT
    rw [len_app, len_app] at lT
    refine ⟨_, rfl, sp [("SOLVE" : Str), b, f, sI t], bk, rfl, rfl, szl (by rw [bk_len]; omega), ?_⟩
    refine ⟨⟨_, rfl⟩, _, rfl, l, rfl, ⟨_, h3⟩, fun D nD => lc_list (K := K) (a := l) (xs := x0 :: xr) (fun i H' => X0 H H' ∧ H' D = some (.lst (((c0 :: cs).take i).map fun r => V.str (sp r.ws)))) ⟨Ext.new nD, upd_same⟩ (fun i H' _ hP => hP.1.sqL ns0 h3) (fun i x H' hi hP => ?_) (fun H' hP => ?_)⟩
    · obtain ⟨x1, hl⟩ := hP
      obtain ⟨d, hd1, hd2⟩ := dpa_get h4 hi
      obtain ⟨r, hr1, rfl⟩ := map_get hd1
      refine ⟨rfl, ?_⟩
      refine ⟨_, rfl, x, r, rfl, x1.dp0 hd2, c4 r (List.mem_of_getElem? hr1), fun H2 x2 => ?_⟩
      have hl2 := x2.keep _ _ hl id (fun _ z => by cases z)
      refine ⟨_, hl2, small1000 (by rw [List.length_map, List.length_take]; omega), Ext.ownL (x1.trans x2) nD hl2, ?_⟩
      rw [upd_same, take_succ hr1, List.map_append]
      rfl
    · obtain ⟨x1, hl⟩ := hP
      rw [lx, List.take_length] at hl
      have hl' : H' D = some (.lst ((((c0 :: cs).map Chg.ws).map sp).map V.str)) := by rw [hl, List.map_map, List.map_map]; rfl
      have lb : ∀ w ∈ ((c0 :: cs).map Chg.ws).map sp, w.length ≤ 77 := fun w hw => by
        rw [List.map_map] at hw
        obtain ⟨r, hr1, rfl⟩ := List.mem_map.mp hw
        have q := chg_clean (c4 r hr1)
        exact sp_le q.1 q.2.1
      have ln : (((c0 :: cs).map Chg.ws).map sp).length = (c0 :: cs).length := by rw [List.length_map, List.length_map]
      refine ⟨bw, D, ((c0 :: cs).map Chg.ws).map sp, rfl, rfl, .inl (SqL.of hl'), join_ok (k := 77) (n := 3) lb (by rw [ln]; exact c3) (by decide +kernel), ?_⟩
      rw [bw_join (l := (c0 :: cs).map Chg.ws) (List.cons_ne_nil _ _) (chs_ne c4)]
      refine ⟨_, _, rfl, rfl, ?_, ?_⟩
      · rw [len_app]
        exact szl (by omega)
      · rw [eT]
        exact k H' x1
theorem ok_advance_text (T : TT a K mg base) (D : Df K mg "advance_text" s_advance_text) : Dn Pg w K mg base CX0 10 "advance_text" ["told"] (spWr K "advance") := by
  refine D.dn (fun _ _ _ _ _ _ us hl => match us, hl with | [_], _ => rfl) fun f fd F => ?_
  refine F.ok (k := 9) sc_advance_text ?_ fun cdv A outer s H vs Q E hr h => ?_
  · rintro vs H Q E ⟨v, c, rfl, _⟩
    rfl
  have nd := sc_advance_text.nd
  refine ⟨_, pss_one (ps_ret (pe_join pe_str (pe_op op_cat (pe_lst (pa_cons pe_str pa_nil)) (pe_lc2 (own := [("plot", 1), ("number", 2)]) (wi1 := iTup K (tVar 1)) (g := gName 1) (g1 := gName 2) (tt := tYes) (tt1 := tYes) (vs1 := [2]) (by rfl) nd (pi_list (pe_ix ix_list (pv 0) pe_int (fun _ _ => rfl)))
      (blkOk_by (own := [("plot", 1), ("number", 2)]) (N := ["told", "plot", "number"]) (sc := defScope s_advance_text) (by decide +kernel)) (by decide)
      (fun _ _ _ _ _ => pg_name (i := 1) nd rfl (.inl rfl)) (fun _ _ _ _ _ => pts_nil) (fun _ _ _ _ _ => pi_tup (pv 1)) (fun _ _ _ _ _ => pg_name (i := 2) nd rfl (.inl rfl)) (fun _ _ _ _ _ => pts_nil)
      (fun _ _ _ _ _ => pe_callTy call_str_int (by rfl) (T.no "str") (by decide +kernel) (pa_cons (pv 2) pa_nil)))))), ?_⟩
  obtain ⟨v, c, rfl, hd, ⟨hc, hk⟩, k⟩ := h
  obtain ⟨qs, rfl⟩ := key_advance hk
  have wc := ws_clean hc
  obtain ⟨c1, c2⟩ := hc
  obtain ⟨l0, xs0, rfl, h1, h2⟩ := dp_lst hd
  obtain ⟨v1, r1, rfl, e1, h2⟩ := dpa_cons h2
  obtain rfl := dpa_nil h2
  obtain ⟨l, xs, rfl, h3, h4⟩ := dp_lst e1
  have lx : xs.length = qs.length := by rw [dpa_len h4, List.length_map]
  refine ⟨⟨_, rfl⟩, (by show 1 ≤ sizeLine; decide), fun L nL => ?_⟩
  have xL : X0 H (upd H L (.lst [.str "ADVANCE"])) := Ext.new nL
  refine ⟨_, rfl, l0, _, _, _, rfl, rfl, xL.sqL ns0 h1, atI_nat (j := 0) rfl, l, rfl, ⟨_, xL.sqL ns0 h3⟩, fun D nD => ?_⟩
  have hLD : L ≠ D := ne_of_none (upd_same (H := H) (a := L) (o := .lst [.str "ADVANCE"])) nD
  have fl : ∀ i, ((qs.take i).map plotW).flatten.length ≤ 9 := fun i => by
    have q := (plots_clean (ps := qs.take i) fun p hp => c2 p (List.mem_of_mem_take hp)).2
    rw [q, List.length_take]
    omega
  refine ⟨fun i m G => m = qs.length - i ∧ i ≤ qs.length ∧ X0 (upd H L (.lst [.str "ADVANCE"])) G ∧ G D = some (.lst ((((qs.take i).map plotW).flatten).map V.str)), ⟨_, rfl, Nat.zero_le _, Ext.new nD, upd_same⟩, ?_⟩
  rintro i m G ⟨rfl, hi, xG, hG⟩
  have sq : SqL K G l xs := xG.sqL ns0 (xL.sqL ns0 h3)
  by_cases hlt : i < qs.length
  · have hlx : i < xs.length := by rw [lx]; exact hlt
    refine .inr ⟨⟨xs, xs[i], sq, List.getElem?_eq_getElem hlx⟩, fun G' => X0 (upd H L (.lst [.str "ADVANCE"])) G' ∧ G' D = some (.lst ((((qs.take (i + 1)).map plotW).flatten).map V.str)), fun G' hP => ⟨qs.length - (i + 1), by omega, rfl, hlt, hP.1, hP.2⟩, fun x G' hy => ?_⟩
    obtain ⟨eG, hy⟩ := hy
    rw [eG]
    obtain ⟨d, hd1, hd2⟩ := dpa_get h4 (hy xs sq)
    obtain ⟨q, hq1, rfl⟩ := map_get hd1
    have hd2 := xG.dp0 (xL.dp0 hd2)
    obtain ⟨t, ts, rfl, g1, g2⟩ := dp_tup hd2
    have g2 : DpAll K G ts ((plotL q).map .int) := g2
    obtain rfl := dpa_ints g2
    have oq := plot_ok (c2 q (List.mem_of_getElem? hq1))
    refine ⟨rfl, ?_⟩
    refine ⟨_, rfl, t, rfl, ⟨_, g1⟩, ?_⟩
    refine ⟨fun j k G2 => k = 3 - j ∧ j ≤ 3 ∧ X0 (upd H L (.lst [.str "ADVANCE"])) G2 ∧ SqT K G2 t ((plotL q).map V.int) ∧ G2 D = some (.lst ((((qs.take i).map plotW).flatten).map V.str ++ ((plotL q).take j).map fun n => V.str (sI n))), ⟨_, rfl, Nat.zero_le _, xG, g1, by rw [List.take_zero, List.map_nil, List.append_nil]; exact hG⟩, ?_⟩
    rintro j k2 G2 ⟨rfl, hj, x2, sq2, hG2⟩
    by_cases hj3 : j < 3
    · have hjl : j < ((plotL q).map V.int).length := hj3
      have hjq : j < (plotL q).length := hj3
      refine .inr ⟨⟨_, _, sq2, List.getElem?_eq_getElem hjl⟩, fun G3 => X0 (upd H L (.lst [.str "ADVANCE"])) G3 ∧ SqT K G3 t ((plotL q).map V.int) ∧ G3 D = some (.lst ((((qs.take i).map plotW).flatten).map V.str ++ ((plotL q).take (j + 1)).map fun n => V.str (sI n))), fun G3 hP => ⟨3 - (j + 1), by omega, rfl, hj3, hP.1, hP.2.1, hP.2.2⟩, fun y G3 hy3 => ?_⟩
      obtain ⟨eG3, hy3⟩ := hy3
      rw [eG3]
      have hy4 := hy3 _ sq2
      rw [List.getElem?_map, List.getElem?_eq_getElem hjq] at hy4
      have hy5 : y = V.int (plotL q)[j] := (Option.some.inj hy4).symm
      subst hy5
      have on := oq _ (List.getElem_mem hjq)
      refine ⟨rfl, ?_⟩
      refine ⟨_, rfl, _, rfl, int_log2 on, _, hG2, small1000 ?_, Ext.ownL x2 nD hG2, (lst_ext hG2).sqF (lst_tup hG2) sq2, ?_⟩
      · have := fl i
        rw [List.length_append, List.length_map, List.length_map, List.length_take]
        omega
      · rw [upd_same, take_succ (List.getElem?_eq_getElem hjq), List.map_append, ← List.append_assoc]
        rfl
    · have ej : j = 3 := by omega
      subst ej
      refine .inl ⟨⟨_, sq2, Nat.le_refl _⟩, x2, ?_⟩
      rw [hG2, take_succ hq1, List.map_append, List.flatten_append, List.map_append]
      rfl
  · have ei : i = qs.length := by omega
    subst ei
    rw [List.take_length] at hG
    have f9 := fl qs.length
    rw [List.take_length] at f9
    have gL : G L = some (.lst [.str "ADVANCE"]) := xG.keep L _ upd_same id fun _ z => by cases z
    refine .inl ⟨⟨xs, sq, by rw [lx]; exact Nat.le_refl _⟩, L, D, _, _, rfl, rfl, gL, hG, szl (by rw [List.length_map]; show 1 + _ ≤ _; omega), fun p np => ?_⟩
    refine ⟨bk, p, ("ADVANCE" : Str) :: (qs.map plotW).flatten, rfl, rfl, .inl (SqL.of upd_same), join_ok (k := 10) (n := 64) (fun w hw => (wc.1 w hw).hi) wc.2.1 (by rw [bk_len]; decide), ?_⟩
    exact k _ ((xL.trans xG).trans (Ext.new np))
/-! ### call_text -/
def wrT : List (Str × Str) := [("enter", "enter_text"), ("say", "say_text"), ("solve", "solve_text"), ("hear", "hear_text"), ("give", "give_text"), ("pass_on", "pass_text"), ("advance", "advance_text")]
/-- all writers of calls -/
structure Ws (w : World) (K : Frag) (mg : Str → Option Value) (base : Heap) : Prop where
  enter : Dn Pg w K mg base CX0 10 "enter_text" ["told"] (spWr K "enter")
  say : Dn Pg w K mg base CX0 10 "say_text" ["told"] (spWr K "say")
  solve : Dn Pg w K mg base CX0 10 "solve_text" ["told"] (spWr K "solve")
  hear : Dn Pg w K mg base CX0 10 "hear_text" ["told"] (spWr K "hear")
  give : Dn Pg w K mg base CX0 10 "give_text" ["told"] (spWr K "give")
  pass : Dn Pg w K mg base CX0 10 "pass_text" ["told"] (spWr K "pass_on")
  adv : Dn Pg w K mg base CX0 10 "advance_text" ["told"] (spWr K "advance")
theorem Ws.of (R : Ws w K mg base) {d : Addr} (h : ∀ p ∈ wrT, ∃ f, PySem.W.nsIn K d p.1 = some (some (.ref f)) ∧ mg p.2 = some (.ref f)) (c : Cal) :
    ∃ f, PySem.W.nsIn K d c.key = some (some (.ref f)) ∧ FnAt Pg w K mg base CX0 10 f ["told"] (spWr K c.key) := by
  cases c with
  | enter rs =>
    obtain ⟨f, h1, h2⟩ := h ("enter", "enter_text") (by decide +kernel)
    exact ⟨f, h1, R.enter.at_ h2⟩
  | say b f c t =>
    obtain ⟨f, h1, h2⟩ := h ("say", "say_text") (by decide +kernel)
    exact ⟨f, h1, R.say.at_ h2⟩
  | solve b f cs t =>
    obtain ⟨f, h1, h2⟩ := h ("solve", "solve_text") (by decide +kernel)
    exact ⟨f, h1, R.solve.at_ h2⟩
  | hear m =>
    obtain ⟨f, h1, h2⟩ := h ("hear", "hear_text") (by decide +kernel)
    exact ⟨f, h1, R.hear.at_ h2⟩
  | give x y z =>
    obtain ⟨f, h1, h2⟩ := h ("give", "give_text") (by decide +kernel)
    exact ⟨f, h1, R.give.at_ h2⟩
  | pass f k n s r =>
    obtain ⟨f, h1, h2⟩ := h ("pass_on", "pass_text") (by decide +kernel)
    exact ⟨f, h1, R.pass.at_ h2⟩
  | adv ps =>
    obtain ⟨f, h1, h2⟩ := h ("advance", "advance_text") (by decide +kernel)
    exact ⟨f, h1, R.adv.at_ h2⟩
def spCallT (K : Frag) : Sp := fun vs H Q _ => ∃ v c, vs = [v] ∧ Dp K H v (Cal.d c) ∧ OkCal c ∧ ∀ H', X0 H H' → Q (.str (cTx c)) H'
theorem parts_len (c : Cal) : c.parts.length ≤ 10 := by cases c <;> exact Nat.le_of_ble_eq_true rfl
theorem ok_call_text (T : TT a K mg base) (R : Ws w K mg base) (DW : FD K w mg "WRITERS" wrT) (D : Df K mg "call_text" s_call_text) : Dn Pg w K mg base CX0 12 "call_text" ["call"] (spCallT K) := by
  refine D.dn (fun _ _ _ _ _ _ us hl => match us, hl with | [_], _ => rfl) fun f fd F => ?_
  refine F.ok (k := 11) sc_call_text ?_ fun cdv A outer s H vs Q E hr h => ?_
  · rintro vs H Q E ⟨v, c, rfl, _⟩
    rfl
  have nd := sc_call_text.nd
  obtain ⟨wd, gW, ⟨es, n, KD⟩, hW⟩ := DW
  refine ⟨_, pss_cons (ps_asg (pv 0) (pg_star1 (by rfl) (pgs_cons (pg_name (i := 1) nd rfl (.inl rfl)) (pgs_cons (pg_name (i := 2) nd rfl (.inl rfl)) pgs_nil))))
    (pss_cons (ps_set (i := 3) nd rfl (.inl rfl) (pe_ix ix_kdict (pe_gr gW) (pv 1) (fun _ _ => rfl)))
    (pss_one (ps_ret (pe_held0 (k := 10) (ps := ["told"]) (hr.mono (by decide)) (pv 3) (pa_cons (pv 2) pa_nil))))), ?_⟩
  obtain ⟨v, c, rfl, hd, hc, k⟩ := h
  obtain ⟨p, xs, rfl, h1, h2⟩ := dp_tup hd
  obtain ⟨v1, r1, rfl, e1, h3⟩ := dpa_cons h2
  obtain rfl := dp_str e1
  obtain ⟨f, hf1, hf2⟩ := R.of hW c
  have lr : r1.length ≤ 1000 := by
    rw [dpa_len h3]
    have := parts_len c
    omega
  refine ⟨_, rfl, p, _, _, rfl, h1, lr, fun D nD => ⟨_, _, rfl, _, _, rfl, rfl, ?_⟩⟩
  refine ⟨_, rfl, wd, _, _, rfl, rfl, K31.KDict.dct KD (v := .ref f) hf1 rfl, ?_⟩
  refine ⟨_, rfl, f, _, rfl, hf2, _, rfl, _, c, rfl, dp_newL upd_same ((Ext.new nD : X0 _ _).dpAll0 h3), ⟨hc, rfl⟩, fun H1 x1 => k H1 ((Ext.new nD : X0 _ _).trans x1)⟩
end
end K31
/-! K31, defs 16: line_of, journal_text, read_line. -/
namespace K31
open PySem PySem.Spec PyProof.Rows L2 GxR
open PySem.W (Frag)
open TL (tl)
/-! ### lines -/
abbrev nl : Str := "\n"
theorem tl_nl : tl nl = [10] := by decide +kernel
theorem nl_len : nl.length = 1 := by decide +kernel
def lineX (n m : Int) (x : Str) : Str := sI n ++ bk ++ (sI m ++ bk ++ x)
def lineT (n : Nat) (c : Cal) : Str := lineX (n : Int) (tsum (cTx c)) (cTx c)
theorem nat_num {n : Nat} (h : n < 1000) : OkNum (n : Int) := ⟨by omega, by omega⟩
theorem lineX_len {n : Nat} (hn : n < 1000) {m : Int} (hm : OkNum m) {x : Str} : (lineX (n : Int) m x).length ≤ x.length + 20 := by
  have l1 := num_len (nat_num hn)
  have l2 := num_len hm
  unfold lineX
  simp only [len_app, bk_len]
  omega
theorem lineT_len {n : Nat} (hn : n < 1000) {c : Cal} (h : OkCal c) : (lineT n c).length ≤ 724 := by
  have l := cTx_len h
  have q := lineX_len hn (tsum_ok (cTx c)) (x := cTx c)
  unfold lineT
  omega
theorem no32n {n : Int} (h : OkNum n) : 32 ∉ tl (sI n) := no32 (num_clean h).sg
/-- what read_line answers with None -/
def BadL (n : Nat) (line : Str) : Prop := (∃ h r, 32 ∉ tl h ∧ h ≠ sI (n : Int) ∧ (line = h ++ bk ++ r ∨ (line = h ∧ r = Str.empty))) ∨ (∃ m x, line = lineX (n : Int) m x ∧ OkNum m ∧ m ≠ tsum x) ∨
  (∃ c, OkCal c ∧ line = lineX (n : Int) (tsum (cTx c ++ bk)) (cTx c ++ bk))
theorem part_app {a b : Str} (h : 32 ∉ tl a) : Txt.partition (a ++ bk ++ b) bk = (a, bk, b) := TL.partition_app (s := 32) (S := []) tl_bk h
theorem part_no {a : Str} (h : 32 ∉ tl a) : Txt.partition a bk = (a, Str.empty, Str.empty) := TL.partition_none (s := 32) (S := []) tl_bk h
/-! ### line_of, journal_text -/
def spLineOf (a : Ad) (K : Frag) : Sp := fun vs H Q _ => ∃ (n : Nat) (v : V) (c : Cal), vs = [.int (n : Int), v] ∧ n < 1000 ∧ Tb a H ∧ Dp K H v (Cal.d c) ∧ OkCal c ∧ ∀ H', X0 H H' → Q (.str (lineT n c)) H'
/-- the journal's rows from the k-th on -/
def jrow : Nat → List Cal → List Str
  | _, [] => []
  | k, c :: r => (lineT k c ++ nl) :: jrow (k + 1) r
def jTx (cs : List Cal) : Str := Txt.join Str.empty (jrow 0 cs)
theorem jrow_len : ∀ (cs : List Cal) (k : Nat), (jrow k cs).length = cs.length
  | [], _ => rfl
  | c :: r, k => by
    show (jrow (k + 1) r).length + 1 = r.length + 1
    rw [jrow_len r (k + 1)]
theorem jrow_get : ∀ {cs : List Cal} {k i : Nat} {c : Cal}, cs[i]? = some c → (jrow k cs)[i]? = some (lineT (k + i) c ++ nl)
  | [], _, _, _, h => by simp at h
  | c :: r, k, 0, _, h => by
    have e : c = _ := Option.some.inj h
    subst e
    rfl
  | c :: r, k, i + 1, _, h => by
    show (jrow (k + 1) r)[i]? = _
    rw [jrow_get (cs := r) (k := k + 1) h, show k + 1 + i = k + (i + 1) by omega]
theorem jrow_small : ∀ {cs : List Cal} {k : Nat}, (∀ c ∈ cs, OkCal c) → k + cs.length ≤ 1000 → ∀ w ∈ jrow k cs, w.length ≤ 725
  | [], _, _, _ => all_nil
  | c :: r, k, h, hk => by
    rw [List.length_cons] at hk
    refine all_cons ?_ (jrow_small (cs := r) (k := k + 1) (fun x hx => h x (List.mem_cons_of_mem _ hx)) (by omega))
    rw [len_app, nl_len]
    have := lineT_len (n := k) (by omega) (h c (List.mem_cons_self ..))
    omega
def spJour (a : Ad) (K : Frag) : Sp := fun vs H Q _ => ∃ v cs, vs = [v] ∧ Tb a H ∧ Dp K H v (.list (cs.map Cal.d)) ∧ (∀ c ∈ cs, OkCal c) ∧ cs.length ≤ 10 ∧ ∀ H', X0 H H' → Q (.str (jTx cs)) H'
section
variable {a : Ad} {w : World} {K : Frag} {mg : Str → Option Value} {base : Heap}
theorem ok_line_of (T : TT a K mg base) (C : Dn Pg w K mg base CX0 12 "call_text" ["call"] (spCallT K)) (D : Df K mg "line_of" s_line_of) : Dn Pg w K mg base CX0 15 "line_of" ["number", "call"] (spLineOf a K) := by
  refine D.dn (fun _ _ _ _ _ _ us hl => match us, hl with | [_, _], _ => rfl) fun f fd F => ?_
  refine F.ok (k := 14) sc_line_of ?_ fun cdv A outer s H vs Q E hr h => ?_
  · rintro vs H Q E ⟨n, v, c, rfl, _⟩
    rfl
  have nd := sc_line_of.nd
  have S := ok_text_sum (w := w) T
  refine ⟨_, pss_cons (ps_set (i := 2) nd rfl (.inl rfl) (pe_df C (hr.mono (by decide)) (pa_cons (pv 1) pa_nil)))
    (pss_one (ps_ret (pe_joined (PJ.cons (pe_fmt (pv 0)) (PJ.cons pe_str (PJ.cons (pe_fmt (pe_df S (hr.mono (by decide)) (pa_cons (pv 2) pa_nil))) (PJ.cons pe_str (PJ.cons (pe_fmt (pv 2)) PJ.nil)))))))), ?_⟩
  obtain ⟨n, v, c, rfl, hn, tb, hd, hc, k⟩ := h
  have l1 := num_len (nat_num hn)
  have l2 := num_len (tsum_ok (cTx c))
  have l3 := cTx_len hc
  refine ⟨_, rfl, v, c, rfl, hd, hc, fun H1 x1 => ?_⟩
  refine ⟨_, rfl, .inr ⟨(n : Int), rfl, num_log2 (nat_num hn), sI (n : Int), rfl, szl (by simp only [emp_app]; omega), _, rfl, szl (by simp only [emp_app, len_app, bk_len]; omega), ?_⟩⟩
  refine ⟨_, rfl, cTx c, rfl, by omega, (x1.tb tb).2.2, fun H2 x2 => .inr ⟨tsum (cTx c), rfl, num_log2 (tsum_ok _), sI (tsum (cTx c)), rfl, szl (by simp only [emp_app, len_app, bk_len]; omega), _, rfl, szl (by simp only [emp_app, len_app, bk_len]; omega), ?_⟩⟩
  refine ⟨_, rfl, .inl ⟨cTx c, rfl, szl (by omega), cTx c, rfl, szl (by simp only [emp_app, len_app, bk_len]; omega), ?_⟩⟩
  have e : Str.empty ++ sI (n : Int) ++ bk ++ sI (tsum (cTx c)) ++ bk ++ cTx c = lineT n c := by
    unfold lineT lineX
    rw [emp_app]
    simp only [app_assoc]
  rw [e]
  exact k H2 (x1.trans x2)
theorem ok_journal_text (T : TT a K mg base) (C : Dn Pg w K mg base CX0 12 "call_text" ["call"] (spCallT K)) (DL : Df K mg "line_of" s_line_of) (D : Df K mg "journal_text" s_journal_text) : Dn Pg w K mg base CX0 17 "journal_text" ["log"] (spJour a K) := by
  refine D.dn (fun _ _ _ _ _ _ us hl => match us, hl with | [_], _ => rfl) fun f fd F => ?_
  refine F.ok (k := 16) sc_journal_text ?_ fun cdv A outer s H vs Q E hr h => ?_
  · rintro vs H Q E ⟨v, cs, rfl, _⟩
    rfl
  have nd := sc_journal_text.nd
  have L := ok_line_of T C DL
  refine ⟨_, pss_one (ps_ret (pe_join pe_str (pe_lc (own := [("number", 1), ("call", 2)]) (wi := iEnum K (tCons (tVar 0) tNil)) (g := gTup K 2 (gCons (gName 1) (gCons (gName 2) gNil))) (tt := tYes) (by rfl) nd (pi_enum (by rfl) (T.no "enumerate") (pa_cons (pv 0) pa_nil)) (blkOk_by (own := [("number", 1), ("call", 2)]) (N := ["log", "number", "call"]) (sc := defScope s_journal_text) (by decide +kernel))
        (fun _ _ _ _ _ => pg_tup (by rfl) (pgs_cons (pg_name (i := 1) nd rfl (.inl rfl)) (pgs_cons (pg_name (i := 2) nd rfl (.inl rfl)) pgs_nil))) (fun _ _ _ _ _ => pts_nil) (fun _ _ _ _ _ => pe_op op_add_str (pe_df L (hr.mono (by decide)) (pa_cons (pv 1) (pa_cons (pv 2) pa_nil))) pe_str)))), ?_⟩
  obtain ⟨v, cs, rfl, tb, hd, hc, hn, k⟩ := h
  obtain ⟨l, xs, rfl, h1, h2⟩ := dp_lst hd
  have lx : xs.length = cs.length := by rw [dpa_len h2, List.length_map]
  refine ⟨⟨_, rfl⟩, _, rfl, l, _, rfl, h1, fun D nD => ?_⟩
  refine ⟨fun i m G => m = cs.length - i ∧ i ≤ cs.length ∧ X0 H G ∧ G D = some (.lst (((jrow 0 cs).take i).map V.str)), ⟨_, rfl, Nat.zero_le _, Ext.new nD, upd_same⟩, ?_⟩
  rintro i m G ⟨rfl, hi, xG, hG⟩
  have sq : SqL K G l xs := xG.sqL ns0 h1
  by_cases hlt : i < cs.length
  · have hlx : i < xs.length := by rw [lx]; exact hlt
    refine .inr ⟨⟨xs, xs[i], sq, List.getElem?_eq_getElem hlx⟩, fun G' => X0 H G' ∧ G' D = some (.lst (((jrow 0 cs).take (i + 1)).map V.str)), fun G' hP => ⟨cs.length - (i + 1), by omega, rfl, hlt, hP.1, hP.2⟩, fun x G' hy => ?_⟩
    obtain ⟨t, y, rfl, nt, rfl, hy⟩ := hy
    obtain ⟨d, hd1, hd2⟩ := dpa_get h2 (hy xs sq)
    obtain ⟨c, hc1, rfl⟩ := map_get hd1
    have oc := hc c (List.mem_of_getElem? hc1)
    have xt : X0 G (upd G t (.tup [.int (i : Nat), y])) := Ext.new nt
    refine ⟨t, _, rfl, SqT.of upd_same, rfl, _, _, rfl, _, _, rfl, rfl, ?_⟩
    have lt := lineT_len (n := i) (by omega) oc
    refine ⟨rfl, ?_⟩
    refine ⟨_, rfl, _, rfl, i, y, c, rfl, by omega, (xG.trans xt).tb tb, xt.dp0 (xG.dp0 hd2), oc, fun H2 x2 => ⟨_, nl, rfl, rfl, szl (by rw [nl_len]; omega), ?_⟩⟩
    have hG2 : H2 D = some (.lst (((jrow 0 cs).take i).map V.str)) := x2.keep D _ (xt.keep D _ hG id fun _ z => by cases z) id fun _ z => by cases z
    refine ⟨_, hG2, small1000 (by rw [List.length_map, List.length_take, jrow_len]; omega), Ext.ownL ((xG.trans xt).trans x2) nD hG2, ?_⟩
    rw [upd_same, take_succ (jrow_get (k := 0) hc1), List.map_append, Nat.zero_add]
    rfl
  · have ei : i = cs.length := by omega
    subst ei
    rw [List.take_of_length_le (by rw [jrow_len]; exact Nat.le_refl _)] at hG
    refine .inl ⟨⟨xs, sq, by rw [lx]; exact Nat.le_refl _⟩, Str.empty, D, jrow 0 cs, rfl, rfl, .inl (SqL.of hG), join_ok (k := 725) (n := 10) (jrow_small hc (by omega)) (by rw [jrow_len]; exact hn) (by decide +kernel), k G xG⟩
/-! ### read_line -/
def spRdLine (a : Ad) (K : Frag) : Sp := fun vs H Q _ => ∃ (n : Nat) (line : Str), vs = [.int (n : Int), .str line] ∧ n < 1000 ∧ line.length ≤ 100000 ∧ Tb a H ∧
  ((∃ c, OkCal c ∧ line = lineT n c ∧ ∀ v H', X0 H H' → Kp K H H' v c.d → Q v H') ∨ (BadL n line ∧ ∀ H', X0 H H' → Q .non H'))
theorem ok_read_line (T : TT a K mg base) (C : Dn Pg w K mg base (L2.CX Pg w) 20 "read_call" ["text"] (spRdCall a K)) (D : Df K mg "read_line" s_read_line) : Dn Pg w K mg base CX0 25 "read_line" ["number", "line"] (spRdLine a K) := by
  refine D.dn (fun _ _ _ _ _ _ us hl => match us, hl with | [_, _], _ => rfl) fun f fd F => ?_
  refine F.ok (k := 24) sc_read_line ?_ fun cdv A outer s H vs Q E hr h => ?_
  · rintro vs H Q E ⟨n, line, rfl, _⟩
    rfl
  have nd := sc_read_line.nd
  have S := ok_text_sum (w := w) T
  have N := ok_is_number (w := w) T
  refine ⟨_, pss_cons (ps_asg (pe_partition (pv 1) pe_str) (pg_tup (by rfl) (pgs_cons (pg_name (i := 2) nd rfl (.inl rfl)) (pgs_cons (pg_name (i := 3) nd rfl (.inl rfl)) (pgs_cons (pg_name (i := 4) nd rfl (.inl rfl)) pgs_nil)))))
    (pss_cons (ps_asg (pe_partition (pv 4) pe_str) (pg_tup (by rfl) (pgs_cons (pg_name (i := 5) nd rfl (.inl rfl)) (pgs_cons (pg_name (i := 3) nd rfl (.inl rfl)) (pgs_cons (pg_name (i := 6) nd rfl (.inl rfl)) pgs_nil)))))
    (pss_cons (ps_if (PW.pt (pw_or (pt_cmpR op_ne (pv 2) (pe_callTy call_str_int (by rfl) (T.no "str") (by decide +kernel) (pa_cons (pv 0) pa_nil)) (nomark _))
        (pw_or (pt_not (pt_val (pe_df N (hr.mono (by decide)) (pa_cons (pv 5) pa_nil)))) (pw_or1 (pt_cmpR op_ne (pe_callTy call_int_str (by rfl) (T.no "int") (by decide +kernel) (pa_cons (pv 5) pa_nil)) (pe_df S (hr.mono (by decide)) (pa_cons (pv 6) pa_nil)) (nomark _))))))
      (pss_one (ps_ret pe_non)) pss_nil)
    (pss_one (ps_try_only (tb := fun W => tRet (tCallS (spRdCall a K) (WE W) (tCons (tVar 6) tNil))) (ts := fun _ _ _ => tRet (tC .non)) (Wout := fun _ _ _ _ => False) rfl rfl ⟨rfl, by decide, Or.inl T.gTE⟩ takes0
        (fun W pn xe tk _ => pss_one (ps_ret (pe_dx C (hr.mono (by decide)) tk (pa_cons (pv 6) pa_nil)))) (fun _ _ _ _ _ _ _ => pss_one (ps_ret pe_non)))))), ?_⟩
  obtain ⟨n, line, rfl, hn, hl, tb, h⟩ := h
  have on := nat_num hn
  obtain ⟨hd, s1, r, t, s2, x, e1, e2, hr2, hx, hcase⟩ : ∃ hd s1 r t s2 x, Txt.partition line bk = (hd, s1, r) ∧ Txt.partition r bk = (t, s2, x) ∧ r.length ≤ 100000 ∧ (hd = sI (n : Int) → x.length ≤ 100000) ∧
      ((hd ≠ sI (n : Int) ∧ ∀ H', X0 H H' → Q .non H') ∨ (hd = sI (n : Int) ∧ ∃ m, t = sI m ∧ OkNum m ∧ ((m ≠ tsum x ∧ ∀ H', X0 H H' → Q .non H') ∨ (m = tsum x ∧ ∃ c, OkCal c ∧ ((x = cTx c ∧ ∀ v H', X0 H H' → Kp K H H' v c.d → Q v H') ∨ (x = cTx c ++ bk ∧ ∀ H', X0 H H' → Q .non H')))))) := by
    have good : ∀ m y, OkNum m → line = lineX (n : Int) m y → Txt.partition line bk = (sI (n : Int), bk, sI m ++ bk ++ y) ∧ Txt.partition (sI m ++ bk ++ y) bk = (sI m, bk, y) ∧ (sI m ++ bk ++ y).length ≤ 100000 ∧ y.length ≤ 100000 := fun m y hm e => by
      have ll := hl
      rw [e] at ll
      unfold lineX at ll
      rw [len_app] at ll
      have l2 : (sI m ++ bk ++ y).length ≤ 100000 := by omega
      have l3 := l2
      rw [len_app] at l3
      exact ⟨by rw [e]; exact part_app (no32n on), part_app (no32n hm), l2, by omega⟩
    rcases h with ⟨c, hc, rfl, k⟩ | ⟨hb, k⟩
    · obtain ⟨g1, g2, g3, g4⟩ := good (tsum (cTx c)) (cTx c) (tsum_ok _) rfl
      exact ⟨_, _, _, _, _, _, g1, g2, g3, fun _ => g4, .inr ⟨rfl, _, rfl, tsum_ok _, .inr ⟨rfl, c, hc, .inl ⟨rfl, k⟩⟩⟩⟩
    · rcases hb with ⟨h0, r0, n32, ne, e⟩ | ⟨m, y, e, hm, ne⟩ | ⟨c, hc, e⟩
      · have lr : r0.length ≤ 100000 := by
          rcases e with e | ⟨e, e'⟩
          · rw [e, len_app] at hl
            omega
          · rw [e']
            decide
        have pe : ∃ s1, Txt.partition line bk = (h0, s1, r0) := by
          rcases e with e | ⟨e, e'⟩
          · exact ⟨bk, by rw [e]; exact part_app n32⟩
          · exact ⟨Str.empty, by rw [e, e']; exact part_no n32⟩
        obtain ⟨s1, pe⟩ := pe
        exact ⟨h0, s1, r0, (Txt.partition r0 bk).1, (Txt.partition r0 bk).2.1, (Txt.partition r0 bk).2.2, pe, rfl, lr, fun z => absurd z ne, .inl ⟨ne, k⟩⟩
      · obtain ⟨g1, g2, g3, g4⟩ := good m y hm e
        exact ⟨_, _, _, _, _, _, g1, g2, g3, fun _ => g4, .inr ⟨rfl, _, rfl, hm, .inl ⟨ne, k⟩⟩⟩
      · obtain ⟨g1, g2, g3, g4⟩ := good _ _ (tsum_ok _) e
        exact ⟨_, _, _, _, _, _, g1, g2, g3, fun _ => g4, .inr ⟨rfl, _, rfl, tsum_ok _, .inr ⟨rfl, c, hc, .inr ⟨rfl, k⟩⟩⟩⟩
  refine ⟨_, rfl, ⟨_, rfl⟩, line, bk, rfl, rfl, (by decide +kernel), szl (by omega), fun p np => ?_⟩
  rw [e1]
  refine ⟨p, _, rfl, SqT.of upd_same, rfl, _, _, rfl, _, _, rfl, _, _, rfl, rfl, ?_⟩
  refine ⟨_, rfl, ⟨_, rfl⟩, r, bk, rfl, rfl, (by decide +kernel), szl (by omega), fun q nq => ?_⟩
  rw [e2]
  have x2 : X0 H (upd (upd H p (.tup [.str hd, .str s1, .str r])) q (.tup [.str t, .str s2, .str x])) := (Ext.new np : X0 _ _).trans (Ext.new nq)
  refine ⟨q, _, rfl, SqT.of upd_same, rfl, _, _, rfl, _, _, rfl, _, _, rfl, rfl, ?_⟩
  refine ⟨_, rfl, _, rfl, (n : Int), rfl, num_log2 on, rfl, _, rfl, ?_⟩
  rcases hcase with ⟨ne, k⟩ | ⟨rfl, m, rfl, hm, hcase⟩
  · refine if_t (show (!decide (V.str hd = V.str (sI (n : Int)))) = true by rw [decide_eq_false fun z => ne (V.str.inj z)] <;> rfl) (if_t rfl (k _ x2))
  · refine if_f (show (!decide (V.str (sI (n : Int)) = V.str (sI (n : Int)))) = false by rw [decide_eq_true rfl] <;> rfl) ?_
    have lm := num_len hm
    have lx := hx rfl
    refine ⟨_, rfl, _, rfl, (x2.tb tb).2.1, .inl ⟨⟨m, hm, rfl⟩, fun H3 x3 => ⟨_, rfl, if_f rfl ?_⟩⟩⟩
    refine ⟨_, rfl, sI m, m, rfl, num_text hm, by omega, _, rfl, x, rfl, by omega, ((x2.trans x3).tb tb).2.2, fun H4 x4 => ⟨rfl, _, rfl, ?_⟩⟩
    have x04 := (x2.trans x3).trans x4
    rcases hcase with ⟨ne, k⟩ | ⟨e, c, hc, k⟩
    · exact if_t (show (!decide (V.int m = V.int (tsum x))) = true by rw [decide_eq_false fun z => ne (V.int.inj z)] <;> rfl) (k _ x04)
    · refine if_f (show (!decide (V.int m = V.int (tsum x))) = false by rw [decide_eq_true (by rw [e])] <;> rfl) ?_
      refine ⟨_, rfl, c, x, rfl, x04.tb tb, hc, ?_⟩
      rcases k with ⟨ex, k⟩ | ⟨ex, k⟩
      · exact .inl ⟨ex, fun v H5 x5 kv => k v H5 (x04.trans x5) (kp_x0 x04 kv)⟩
      · exact .inr ⟨ex, fun d H5 x5 => ⟨true, T.te.te, fun _ a0 _ => k H5 (x04.trans x5), fun q => Bool.noConfusion q⟩⟩
end
end K31
/-! K31, defs 17: read_journal. -/
namespace K31
open PySem PySem.Spec PyProof.Rows L2 GxR
open PySem.W (Frag)
open TL (tl)
theorem upd_own {H : Hp} {a : Addr} {o : HO} (h : H a = some o) : upd H a o = H := by
  funext b
  by_cases z : b = a
  · rw [z, upd_same, h]
  · exact upd_ne z
/-- the same list is changed on both sides -/
theorem x0_upd {H H' : Hp} {l : Addr} {ys : List V} (x : X0 H H') : X0 (upd H l (.lst ys)) (upd H' l (.lst ys)) := by
  refine ⟨fun b o e m n => ?_, fun P t => ?_, fun b e => ?_⟩
  · by_cases z : b = l
    · rw [z, upd_same] at e ⊢
      exact e
    · rw [upd_ne z] at e ⊢
      exact x.keep b o e m n
  · obtain ⟨ps, e, q⟩ := t
    by_cases z : P = l
    · rw [z, upd_same] at e
      cases e
    · rw [upd_ne z] at e
      obtain ⟨ps2, e2, q2⟩ := x.tab P ⟨ps, e, q⟩
      exact ⟨ps2, by rw [upd_ne z]; exact e2, q2⟩
  · by_cases z : b = l
    · rw [z, upd_same] at e
      cases e
    · rw [upd_ne z] at e ⊢
      exact x.free b e
/-- data in the list at l, which bear that the list is changed -/
def RbAll (K : Frag) (H : Hp) (l : Addr) (vs : List V) (ds : List PyData) : Prop := H l = some (.lst vs) ∧ ∀ ys, DpAll K (upd H l (.lst ys)) vs ds
theorem RbAll.here {K : Frag} {H : Hp} {l : Addr} {vs : List V} {ds : List PyData} (h : RbAll K H l vs ds) : DpAll K H vs ds := by
  have q := h.2 vs
  rw [upd_own h.1] at q
  exact q
theorem RbAll.x0 {K : Frag} {H H' : Hp} {l : Addr} {vs : List V} {ds : List PyData} (h : RbAll K H l vs ds) (x : X0 H H') : RbAll K H' l vs ds := ⟨x.keep l _ h.1 id (fun _ z => by cases z), fun ys => (x0_upd x).dpAll0 (h.2 ys)⟩
theorem RbAll.more {K : Frag} {H H' : Hp} {l : Addr} {vs : List V} {ds : List PyData} {v : V} {d : PyData} (h : RbAll K H l vs ds) (x : X0 H H') (kv : Kp K H H' v d) : RbAll K (upd H' l (.lst (vs ++ [v]))) l (vs ++ [v]) (ds ++ [d]) :=
  ⟨upd_same, fun ys => by
    rw [upd_upd]
    exact dpa_app ((h.x0 x).2 ys) (.cons (kv.2 l _ ys h.1) .nil)⟩
/-- the lines of calls, from the k-th on -/
def lns : Nat → List Cal → List Str
  | _, [] => []
  | k, c :: r => lineT k c :: lns (k + 1) r
theorem lns_len : ∀ (cs : List Cal) (k : Nat), (lns k cs).length = cs.length
  | [], _ => rfl
  | c :: r, k => by
    show (lns (k + 1) r).length + 1 = r.length + 1
    rw [lns_len r (k + 1)]
theorem lns_get : ∀ {cs : List Cal} {k i : Nat} {c : Cal}, cs[i]? = some c → (lns k cs)[i]? = some (lineT (k + i) c)
  | [], _, _, _, h => by simp at h
  | c :: r, k, 0, _, h => by
    have e : c = _ := Option.some.inj h
    subst e
    rfl
  | c :: r, k, i + 1, _, h => by
    show (lns (k + 1) r)[i]? = _
    rw [lns_get (cs := r) (k := k + 1) h, show k + 1 + i = k + (i + 1) by omega]
theorem cut_last (xs : List V) (y : V) : cutV (xs ++ [y]) none (some (-1)) = xs := by
  unfold cutV
  have e : HT.sIx (xs ++ [y]).length (xs ++ [y]).length (some (-1)) = xs.length := by
    show (if (-1 : Int) < 0 then ((-1 : Int) + ((xs ++ [y]).length : Int)).toNat else min (-1 : Int).toNat (xs ++ [y]).length) = _
    rw [if_pos (by decide), List.length_append]
    show ((-1 : Int) + ((xs.length + 1 : Nat) : Int)).toNat = xs.length
    omega
  rw [e, HT.sIx_none, Nat.sub_zero, List.drop_zero, List.take_left]
def spRdJ (a : Ad) (K : Frag) : Sp := fun vs H Q _ => ∃ (x : Str) (good : List Cal) (more : List Str) (last : Str), vs = [.str x] ∧ x.length ≤ 1000000 ∧ Txt.split x nl = lns 0 good ++ more ++ [last] ∧ (∀ c ∈ good, OkCal c) ∧ good.length ≤ 100 ∧
  (more = [] ∨ ∃ l r, more = l :: r ∧ BadL good.length l ∧ l.length ≤ 100000) ∧ Tb a H ∧ ∀ v H', X0 H H' → Dp K H' v (.list (good.map Cal.d)) → Q v H'
section
variable {a : Ad} {w : World} {K : Frag} {mg : Str → Option Value} {base : Heap}
theorem ok_read_journal (T : TT a K mg base) (L : Dn Pg w K mg base CX0 25 "read_line" ["number", "line"] (spRdLine a K)) (D : Df K mg "read_journal" s_read_journal) : Dn Pg w K mg base CX0 30 "read_journal" ["text"] (spRdJ a K) := by
  refine D.dn (fun _ _ _ _ _ _ us hl => match us, hl with | [_], _ => rfl) fun f fd F => ?_
  refine F.ok (k := 29) sc_read_journal ?_ fun cdv A outer s H vs Q E hr h => ?_
  · rintro vs H Q E ⟨x, good, more, last, rfl, _⟩
    rfl
  have nd := sc_read_journal.nd
  refine ⟨_, pss_cons (ps_set (i := 1) nd rfl (.inl rfl) (pe_lst pa_nil))
    (pss_cons (ps_for PassesOwn.never rfl (pi_list (pe_slice sl_list (pe_split (pv 0) pe_str) po_none (po_some (pe_un un_neg pe_int)))) (pg_name (i := 2) nd rfl (.inl rfl))
      (pss_cons (ps_set (i := 3) nd rfl (.inl rfl) (pe_df L (hr.mono (by decide)) (pa_cons (pe_callB call_len_seq (by rfl) (T.no "len") PySem.boot_len (pa_cons (pv 1) pa_nil)) (pa_cons (pv 2) pa_nil))))
      (pss_cons (ps_if (pt_cmpR op_isN (pv 3) pe_non (nomark _)) (pss_one ps_break) pss_nil)
      (pss_one (ps_expr (pe_bm PySem.F.plainAttrs_list PySem.F.slot_list_append PySem.F.type_list_append mt_append (pv 1) (pa_cons (pv 3) pa_nil)))))))
    (pss_one (ps_ret (pv 1)))), ?_⟩
  obtain ⟨x, good, more, last, rfl, hx, hsp, hg, hgl, hm, tb, k⟩ := h
  refine ⟨(by show 0 ≤ sizeLine; decide), fun l nl0 => ?_⟩
  refine ⟨_, rfl, ⟨_, rfl⟩, x, nl, rfl, rfl, (by decide +kernel), by rw [sizeLine_eq]; omega, fun p np => ?_⟩
  rw [hsp]
  refine ⟨_, rfl, _, rfl, p, _, rfl, SqL.of upd_same, fun q nq => ?_⟩
  have ep : cutV ((lns 0 good ++ more ++ [last]).map V.str) none (some (-1)) = (lns 0 good ++ more).map V.str := by
    rw [List.map_append]
    exact cut_last _ _
  have ep' : cutV ((lns 0 good ++ more ++ [last]).map V.str) none (some (-(1 : Int))) = (lns 0 good ++ more).map V.str := ep
  rw [ep']
  have x0 : X0 H (upd (upd (upd H l (.lst [])) p (.lst ((lns 0 good ++ more ++ [last]).map V.str))) q (.lst ((lns 0 good ++ more).map V.str))) := ((Ext.new nl0 : X0 _ _).trans (Ext.new np)).trans (Ext.new nq)
  have lp : l ≠ p := ne_of_none (upd_same (H := H) (a := l) (o := .lst [])) np
  have lq : l ≠ q := ne_of_none (show (upd (upd H l (.lst [])) p (.lst ((lns 0 good ++ more ++ [last]).map V.str))) l = some (.lst []) by rw [upd_ne lp]; exact upd_same) nq
  have hl0 : (upd (upd (upd H l (.lst [])) p (.lst ((lns 0 good ++ more ++ [last]).map V.str))) q (.lst ((lns 0 good ++ more).map V.str))) l = some (.lst []) := by
    rw [upd_ne lq, upd_ne lp]
    exact upd_same
  have fin : ∀ (vs : List V) (σ : L2.St) (G : Hp), σ[1]? = some (some (.ref l)) → X0 H G → RbAll K G l vs (good.map Cal.d) → tRet (tVar 1) { nx := fun _ H' => Q .non H', rt := Q } σ G := fun vs σ G h1 h2 h3 => ⟨_, h1, k _ G h2 (dp_newL h3.1 h3.here)⟩
  refine ⟨q, rfl, ⟨_, SqL.of upd_same⟩, for_list (K := K) (a := q) (xs := (lns 0 good ++ more).map V.str) (fun i σ G => i ≤ good.length ∧ ∃ vs v2 v3, σ = [some (.str x), some (.ref l), v2, v3] ∧ X0 H G ∧ G q = some (.lst ((lns 0 good ++ more).map V.str)) ∧ RbAll K G l vs ((good.take i).map Cal.d)) ?_ (fun i σ G _ hP => ?_) ?_ ?_⟩
  · exact ⟨Nat.zero_le _, [], none, none, rfl, x0, upd_same, hl0, fun ys => .nil⟩
  · obtain ⟨_, vs, v2, v3, _, _, hq, _⟩ := hP
    exact SqL.of hq
  · rintro i y σ G hi ⟨hil, vs, v2, v3, rfl, xG, hq, hR⟩
    have lv : vs.length = i := by
      rw [dpa_len hR.here, List.length_map, List.length_take]
      omega
    rw [List.getElem?_map] at hi
    obtain ⟨ln, hln, rfl⟩ := Option.map_eq_some_iff.mp hi
    refine ⟨_, rfl, l, _, rfl, .inl (SqL.of hR.1), _, rfl, i, ln, by rw [lv]; rfl, by omega, ?_⟩
    by_cases hlt : i < good.length
    · have hc1 : good[i]? = some good[i] := List.getElem?_eq_getElem hlt
      have oc := hg _ (List.getElem_mem hlt)
      have eln : ln = lineT i good[i] := by
        rw [List.getElem?_append_left (by rw [lns_len]; exact hlt), lns_get (k := 0) hc1, Nat.zero_add] at hln
        exact (Option.some.inj hln).symm
      have lt := lineT_len (n := i) (by omega) oc
      refine ⟨by rw [eln]; omega, xG.tb tb, .inl ⟨good[i], oc, eln, fun v G2 x2 kv => ?_⟩⟩
      obtain ⟨t, xs, rfl, _⟩ := dp_tup (show Dp K G2 v (.tuple (.str good[i].key :: good[i].parts)) from kv.1)
      have hl2 := (hR.x0 x2).1
      refine ⟨_, rfl, rfl, _, rfl, if_f (decide_eq_false (by intro z; cases z)) ?_⟩
      refine ⟨_, rfl, .inl ⟨rfl, _, SqL.of hl2⟩, _, rfl, l, _, _, rfl, rfl, hl2, small1000 (by rw [lv]; omega), ?_⟩
      have hq2 : G2 q = some (.lst ((lns 0 good ++ more).map V.str)) := x2.keep q _ hq id fun _ z => by cases z
      refine ⟨hlt, vs ++ [.ref t], _, _, rfl, Ext.own (o := .lst (vs ++ [.ref t])) (xG.trans x2) nl0 hl2 (fun _ z => by cases z), by rw [upd_ne (Ne.symm lq)]; exact hq2, ?_⟩
      rw [take_succ hc1, List.map_append]
      exact hR.more x2 kv
    · have ei : i = good.length := by omega
      subst ei
      rw [List.getElem?_append_right (by rw [lns_len]; exact Nat.le_refl _), lns_len, Nat.sub_self] at hln
      rcases hm with rfl | ⟨b, r, rfl, hb, hbl⟩
      · cases hln
      · have eb : b = ln := Option.some.inj hln
        subst eb
        refine ⟨hbl, xG.tb tb, .inr ⟨hb, fun G2 x2 => ?_⟩⟩
        refine ⟨_, rfl, rfl, _, rfl, if_t (decide_eq_true rfl) ?_⟩
        have hR2 := hR.x0 x2
        rw [List.take_length] at hR2
        exact fin vs _ G2 rfl (xG.trans x2) hR2
  · rintro σ G ⟨hil, vs, v2, v3, rfl, xG, hq, hR⟩
    rw [List.length_map, List.length_append, lns_len] at hil hR
    have em : more = [] := List.eq_nil_of_length_eq_zero (by omega)
    rw [List.take_of_length_le (by omega)] at hR
    exact fin vs _ G rfl xG hR
end
end K31
/-! K31, the law's defs 1: its state, its draws. -/
namespace K31
open PySem PySem.Spec PyProof.Rows L2 GxR
open PySem.W (Frag)
open TL (tl)
/-! ### the state -/
def dkv (c : Addr) (n : Nat) (l m : Int) : List (Key × V) := [(.inr "cells", .ref c), (.inr "at", .int (n : Int)), (.inr "left", .int l), (.inr "mix", .int m)]
theorem se_ca : ¬ ("cells" : Str) = "at" := by decide +kernel
theorem se_ca' : ¬ ("at" : Str) = "cells" := by decide +kernel
theorem se_cl : ¬ ("cells" : Str) = "left" := by decide +kernel
theorem se_cl' : ¬ ("left" : Str) = "cells" := by decide +kernel
theorem se_cm : ¬ ("cells" : Str) = "mix" := by decide +kernel
theorem se_cm' : ¬ ("mix" : Str) = "cells" := by decide +kernel
theorem se_al : ¬ ("at" : Str) = "left" := by decide +kernel
theorem se_al' : ¬ ("left" : Str) = "at" := by decide +kernel
theorem se_am : ¬ ("at" : Str) = "mix" := by decide +kernel
theorem se_am' : ¬ ("mix" : Str) = "at" := by decide +kernel
theorem se_lm : ¬ ("left" : Str) = "mix" := by decide +kernel
theorem se_lm' : ¬ ("mix" : Str) = "left" := by decide +kernel
theorem ne_ca : ¬ (Sum.inr ("cells" : Str) : Key) = Sum.inr ("at" : Str) := by decide +kernel
theorem ne_cl : ¬ (Sum.inr ("cells" : Str) : Key) = Sum.inr ("left" : Str) := by decide +kernel
theorem ne_cm : ¬ (Sum.inr ("cells" : Str) : Key) = Sum.inr ("mix" : Str) := by decide +kernel
theorem ne_al : ¬ (Sum.inr ("at" : Str) : Key) = Sum.inr ("left" : Str) := by decide +kernel
theorem ne_am : ¬ (Sum.inr ("at" : Str) : Key) = Sum.inr ("mix" : Str) := by decide +kernel
theorem ne_lm : ¬ (Sum.inr ("left" : Str) : Key) = Sum.inr ("mix" : Str) := by decide +kernel
section
variable {H : Hp} {d c : Addr} {n k : Nat} {l m j : Int}
theorem get_cells (h : H d = some (.dK (dkv c n l m))) : DGet H d (.str "cells") (some (.ref c)) := by
  have q := DGet.k (k := (.inr "cells" : Key)) h
  rw [show valV (dkv c n l m) (.inr "cells") = some (.ref c) from valV_pos rfl] at q
  exact q
theorem get_at (h : H d = some (.dK (dkv c n l m))) : DGet H d (.str "at") (some (.int (n : Int))) := by
  have q := DGet.k (k := (.inr "at" : Key)) h
  rw [show valV (dkv c n l m) (.inr "at") = some (.int (n : Int)) from (valV_neg ne_ca).trans (valV_pos rfl)] at q
  exact q
theorem get_left (h : H d = some (.dK (dkv c n l m))) : DGet H d (.str "left") (some (.int l)) := by
  have q := DGet.k (k := (.inr "left" : Key)) h
  rw [show valV (dkv c n l m) (.inr "left") = some (.int l) from (valV_neg ne_cl).trans ((valV_neg ne_al).trans (valV_pos rfl))] at q
  exact q
theorem get_mix (h : H d = some (.dK (dkv c n l m))) : DGet H d (.str "mix") (some (.int m)) := by
  have q := DGet.k (k := (.inr "mix" : Key)) h
  rw [show valV (dkv c n l m) (.inr "mix") = some (.int m) from (valV_neg ne_cm).trans ((valV_neg ne_am).trans ((valV_neg ne_lm).trans (valV_pos rfl)))] at q
  exact q
theorem put_at (h : H d = some (.dK (dkv c n l m))) : DPut H d (.str "at") (.int (k : Int)) (upd H d (.dK (dkv c k l m))) := by
  have q := DPut.k (k := (.inr "at" : Key)) (v := .int (k : Int)) h (by decide : 4 < sizeLine)
  rw [show putK (dkv c n l m) (.inr "at") (.int (k : Int)) = dkv c k l m from by simp [putK, dkv, se_ca, se_al', se_am']] at q
  exact q
theorem put_left (h : H d = some (.dK (dkv c n l m))) : DPut H d (.str "left") (.int j) (upd H d (.dK (dkv c n j m))) := by
  have q := DPut.k (k := (.inr "left" : Key)) (v := .int j) h (by decide : 4 < sizeLine)
  rw [show putK (dkv c n l m) (.inr "left") (.int j) = dkv c n j m from by simp [putK, dkv, se_cl, se_al, se_lm']] at q
  exact q
theorem put_mix (h : H d = some (.dK (dkv c n l m))) : DPut H d (.str "mix") (.int j) (upd H d (.dK (dkv c n l j))) := by
  have q := DPut.k (k := (.inr "mix" : Key)) (v := .int j) h (by decide : 4 < sizeLine)
  rw [show putK (dkv c n l m) (.inr "mix") (.int j) = dkv c n l j from by simp [putK, dkv, se_cm, se_am, se_lm]] at q
  exact q
end
/-- the law's state stands at d, its cells at c -/
def St0 (H : Hp) (d c : Addr) : Prop := ∃ (n : Nat) (l m : Int) (cs : List Int), H d = some (.dK (dkv c n l m)) ∧ H c = some (.lst (cs.map V.int)) ∧ (∀ x ∈ cs, 0 ≤ x) ∧ 0 ≤ l ∧ 0 ≤ m ∧ m < 2147483648
theorem St0.x0 {H H' : Hp} {d c : Addr} (h : St0 H d c) (x : X0 H H') : St0 H' d c := by
  obtain ⟨n, l, m, cs, h1, h2, h3⟩ := h
  exact ⟨n, l, m, cs, x.keep _ _ h1 id (fun _ z => by cases z), x.keep _ _ h2 id (fun _ z => by cases z), h3⟩
theorem St0.new {H : Hp} {d c l : Addr} {o : HO} (h : St0 H d c) (n : H l = none) : St0 (upd H l o) d c := h.x0 (Ext.new n)
theorem St0.apart {H : Hp} {d c l : Addr} (h : St0 H d c) (n : H l = none) : d ≠ l ∧ c ≠ l := by
  obtain ⟨_, _, _, _, h1, h2, _⟩ := h
  exact ⟨ne_of_none h1 n, ne_of_none h2 n⟩
theorem St0.own {H : Hp} {d c l : Addr} {o : HO} (h : St0 H d c) (n : d ≠ l ∧ c ≠ l) : St0 (upd H l o) d c := by
  obtain ⟨k, x, y, cs, h1, h2, h3⟩ := h
  exact ⟨k, x, y, cs, by rw [upd_ne n.1]; exact h1, by rw [upd_ne n.2]; exact h2, h3⟩
theorem St0.ns {H : Hp} {d c : Addr} (h : St0 H d c) : NS (fun b => b = d) H := by
  obtain ⟨_, _, _, _, h1, _⟩ := h
  exact ns1 h1
theorem St0.lst {H : Hp} {d c l : Addr} {xs : List V} (h : St0 H d c) (e : H l = some (.lst xs)) : ¬ l = d := fun z => by
  obtain ⟨_, _, _, _, h1, _⟩ := h
  rw [z, h1] at e
  cases e
theorem x1_dk {H : Hp} {d : Addr} {o : HO} {kvs : List (Key × V)} (h : H d = some (.dK kvs)) : X1 d H (upd H d o) := Ext.put (M := fun b => b = d) h (fun _ z => by cases z) rfl
/-! ### the draw -/
def spDraw : Sp := fun vs H Q _ => ∃ (d c : Addr) (b : Int), vs = [.ref d, .int b] ∧ St0 H d c ∧ 1 ≤ b ∧ b < 1073741824 ∧ ∀ n H', 0 ≤ n → n < b → X1 d H H' → St0 H' d c → Q (.int n) H'
section
variable {a : Ad} {w : World} {K : Frag} {mg : Str → Option Value} {base : Heap}
theorem ok_draw (T : TT a K mg base) (D : Df K mg "_law_draw" s_law_draw) : Dn Pg w K mg base CX0 3 "_law_draw" ["_law_state", "_law_bound"] spDraw := by
  refine D.dn (fun _ _ _ _ _ _ us hl => match us, hl with | [_, _], _ => rfl) fun f fd F => ?_
  refine F.ok (k := 2) sc_law_draw ?_ fun cdv A outer s H vs Q E hr h => ?_
  · rintro vs H Q E ⟨d, c, b, rfl, _⟩
    rfl
  have nd := sc_law_draw.nd
  have hu := hu_of hr
  obtain ⟨tr, hr1, hr2⟩ : ∃ t, PSs (cxOf CX0 Pg w K mg base ["_law_state", "_law_bound", "_law_cell", "_law_number_here"] "_law_draw" (defScope s_law_draw) f cdv A outer s H E).nox (List.drop 1 (defBody s_law_draw)) t ∧
      ∀ (d c : Addr) (b : Int) (G : Hp) (v2 v3 : Option V) (n : Nat) (l m : Int) (cs : List Int), 1 ≤ b → b < 1073741824 → G d = some (.dK (dkv c n l m)) → G c = some (.lst (cs.map V.int)) → (∀ x ∈ cs, 0 ≤ x) → 0 ≤ l → 0 ≤ m → m < 2147483648 → (∀ n H', 0 ≤ n → n < b → X1 d G H' → St0 H' d c → Q (.int n) H') →
        t { nx := fun _ H' => Q .non H', rt := Q } [some (.ref d), some (.int b), v2, v3] G := by
    refine ⟨_, pss_cons (ps_if (pt_cmpR op_gt (pe_dget hu (pv 0) pe_str (fun _ _ => rfl)) pe_int (nomark _))
      (pss_cons (ps_set (i := 3) nd rfl (.inl rfl) (pe_op op_mod (pe_callTy call_int1 (by rfl) (T.no "int") (by decide +kernel) (pa_cons (pe_dget hu (pv 0) pe_str (fun _ _ => rfl)) pa_nil)) (pv 1)))
      (pss_cons (ps_dput hu (pv 0) pe_str (pe_op op_fdiv (pe_dget hu (pv 0) pe_str (fun _ _ => rfl)) (pv 1)) rfl)
      (pss_one (ps_ret (pv 3))))) pss_nil)
    (pss_cons (ps_dput hu (pv 0) pe_str (pe_op op_mod (pe_callTy call_int1 (by rfl) (T.no "int") (by decide +kernel) (pa_cons (pe_op op_add (pe_op op_mul (pe_dget hu (pv 0) pe_str (fun _ _ => rfl)) pe_int) pe_int) pa_nil)) pe_int) rfl)
    (pss_one (ps_ret (pe_op op_mod (pe_callTy call_int1 (by rfl) (T.no "int") (by decide +kernel) (pa_cons (pe_op op_mod (pe_callTy call_int1 (by rfl) (T.no "int") (by decide +kernel) (pa_cons (pe_op op_add (pe_op op_mul (pe_dget hu (pv 0) pe_str (fun _ _ => rfl)) pe_int) pe_int) pa_nil)) pe_int) pa_nil)) (pv 1))))), ?_⟩
    intro d c b G v2 v3 n l m cs hb1 hb2 g1 g2 g3 g4 g5 g6 k
    have cd : c ≠ d := ne_of g2 g1 (by intro z; cases z)
    have b0 : (0 : Int) < b := by omega
    refine ⟨_, rfl, d, _, rfl, get_left g1, _, _, rfl, rfl, _, rfl, ?_⟩
    by_cases hl : 0 < l
    · refine if_t (decide_eq_true hl) ?_
      refine ⟨_, rfl, d, _, rfl, get_left g1, .inl ⟨_, rfl, _, rfl, _, _, rfl, rfl, b0, ?_⟩⟩
      refine ⟨_, rfl, d, _, rfl, get_left g1, _, rfl, _, _, rfl, rfl, ⟨b0, hb2⟩, _, rfl, d, _, rfl, put_left g1, ?_⟩
      refine ⟨_, rfl, k _ _ (Int.emod_nonneg _ (by omega)) (Int.emod_lt_of_pos _ b0) (x1_dk g1) ⟨n, l / b, m, cs, upd_same, by rw [upd_ne cd]; exact g2, g3, Int.ediv_nonneg g4 (by omega), g5, g6⟩⟩
    · refine if_f (decide_eq_false hl) ?_
      refine ⟨_, rfl, d, _, rfl, get_mix g1, _, _, rfl, rfl, .inl ⟨by omega, by omega⟩, _, _, rfl, rfl, .inl ⟨_, rfl, _, _, rfl, rfl, (by show (0 : Int) < 2147483647; decide), _, rfl, d, _, rfl, put_mix g1, ?_⟩⟩
      have q1 := Int.emod_nonneg (m * 48271 + 11) (show (2147483647 : Int) ≠ 0 by decide)
      have q2 := Int.emod_lt_of_pos (m * 48271 + 11) (show (0 : Int) < 2147483647 by decide)
      have g1' : (upd G d (.dK (dkv c n l ((m * 48271 + 11) % 2147483647)))) d = some (.dK (dkv c n l ((m * 48271 + 11) % 2147483647))) := upd_same
      refine ⟨_, rfl, d, _, rfl, get_mix g1', _, _, rfl, rfl, .inl ⟨by omega, by omega⟩, _, _, rfl, rfl, .inl ⟨_, rfl, _, _, rfl, rfl, (by show (0 : Int) < 2147483629; decide), .inl ⟨_, rfl, _, rfl, _, _, rfl, rfl, b0, ?_⟩⟩⟩
      exact k _ _ (Int.emod_nonneg _ (by omega)) (Int.emod_lt_of_pos _ b0) (x1_dk g1) ⟨n, l, _, cs, g1', by rw [upd_ne cd]; exact g2, g3, g4, q1, by omega⟩
  refine ⟨_, pss_cons (ps_if (PW.pt (pw_and (pt_cmpR op_eq (pe_dget hu (pv 0) pe_str (fun _ _ => rfl)) pe_int (nomark _)) (pw_and1 (pt_cmpR op_lt (pe_dget hu (pv 0) pe_str (fun _ _ => rfl)) (pe_callB call_len_seq (by rfl) (T.no "len") PySem.boot_len (pa_cons (pe_dget hu (pv 0) pe_str (fun _ _ => rfl)) pa_nil)) (nomark _)))))
      (pss_cons (ps_set (i := 2) nd rfl (.inl rfl) (pe_ix ix_list (pe_dget hu (pv 0) pe_str (fun _ _ => rfl)) (pe_dget hu (pv 0) pe_str (fun _ _ => rfl)) (fun _ _ => rfl)))
      (pss_cons (ps_dput hu (pv 0) pe_str (pe_op op_add (pe_dget hu (pv 0) pe_str (fun _ _ => rfl)) pe_int) rfl)
      (pss_cons (ps_dput hu (pv 0) pe_str (pe_op op_mod (pe_callTy call_int1 (by rfl) (T.no "int") (by decide +kernel) (pa_cons (pe_op op_add (pe_op op_add (pe_op op_mul (pe_dget hu (pv 0) pe_str (fun _ _ => rfl)) pe_int) (pv 2)) pe_int) pa_nil)) pe_int) rfl)
      (pss_cons (ps_if (pt_cmpR op_lt (pv 2) (pe_op op_pow pe_int pe_int) (nomark _)) (pss_one (ps_ret (pe_op op_mod (pe_callTy call_int1 (by rfl) (T.no "int") (by decide +kernel) (pa_cons (pv 2) pa_nil)) (pv 1)))) pss_nil)
      (pss_one (ps_dput hu (pv 0) pe_str (pv 2) rfl)))))) pss_nil) hr1, ?_⟩
  obtain ⟨d, c, b, rfl, ⟨n, l, m, cs, h1, h2, h3, h4, h5, h6⟩, hb1, hb2, k⟩ := h
  have cd : c ≠ d := ne_of h2 h1 (by intro z; cases z)
  have b0 : (0 : Int) < b := by omega
  refine ⟨_, rfl, d, _, rfl, get_left h1, rfl, _, rfl, ?_⟩
  by_cases hl : V.int l = V.int 0
  · refine if_t (decide_eq_true hl) ⟨_, rfl, d, _, rfl, get_at h1, _, rfl, d, _, rfl, get_cells h1, c, _, rfl, .inl (SqL.of h2), _, _, rfl, rfl, _, rfl, ?_⟩
    rw [List.length_map]
    by_cases hn : n < cs.length
    · refine if_t (decide_eq_true (by omega)) ?_
      have hx : (cs.map V.int)[n]? = some (V.int cs[n]) := by rw [List.getElem?_map, List.getElem?_eq_getElem hn] <;> rfl
      have hx0 := h3 _ (List.getElem_mem hn)
      refine ⟨_, rfl, d, _, rfl, get_cells h1, _, rfl, d, _, rfl, get_at h1, c, _, _, _, rfl, rfl, SqL.of h2, atI_nat hx, ?_⟩
      refine ⟨_, rfl, d, _, rfl, get_at h1, _, _, rfl, rfl, _, rfl, d, _, rfl, put_at (k := n + 1) h1, ?_⟩
      have g1 : (upd H d (.dK (dkv c (n + 1) l m))) d = some (.dK (dkv c (n + 1) l m)) := upd_same
      refine ⟨_, rfl, d, _, rfl, get_mix g1, _, _, rfl, rfl, .inl ⟨by omega, by omega⟩, _, rfl, _, _, rfl, rfl, _, _, rfl, rfl, .inl ⟨_, rfl, _, _, rfl, rfl, (by show (0 : Int) < 2147483647; decide), _, rfl, d, _, rfl, put_mix g1, ?_⟩⟩
      rw [upd_upd]
      have q1 := Int.emod_nonneg (m * 48271 + cs[n] + 11) (show (2147483647 : Int) ≠ 0 by decide)
      have q2 := Int.emod_lt_of_pos (m * 48271 + cs[n] + 11) (show (0 : Int) < 2147483647 by decide)
      have g2 : (upd H d (.dK (dkv c (n + 1) l ((m * 48271 + cs[n] + 11) % 2147483647)))) d = some (.dK (dkv c (n + 1) l ((m * 48271 + cs[n] + 11) % 2147483647))) := upd_same
      refine ⟨_, rfl, _, _, rfl, rfl, ⟨by decide, by decide, by decide⟩, _, _, rfl, rfl, _, rfl, ?_⟩
      refine ite2 (fun hlt => ?_) (fun hlt => ?_)
      · refine ⟨_, rfl, .inl ⟨_, rfl, _, rfl, _, _, rfl, rfl, b0, ?_⟩⟩
        exact k _ _ (Int.emod_nonneg _ (by omega)) (Int.emod_lt_of_pos _ b0) (x1_dk h1) ⟨n + 1, l, _, cs, g2, by rw [upd_ne cd]; exact h2, h3, h4, q1, by omega⟩
      · refine ⟨_, rfl, _, rfl, d, _, rfl, put_left g2, ?_⟩
        rw [upd_upd]
        exact hr2 d c b _ _ _ (n + 1) cs[n] _ cs hb1 hb2 upd_same (by rw [upd_ne cd]; exact h2) h3 hx0 q1 (by omega) fun n' H' a1 a2 a3 a4 => k n' H' a1 a2 ((x1_dk h1).trans a3) a4
    · refine if_f (decide_eq_false (by omega)) ?_
      exact hr2 d c b H _ _ n l m cs hb1 hb2 h1 h2 h3 h4 h5 h6 k
  · refine if_f (decide_eq_false hl) ?_
    exact hr2 d c b H _ _ n l m cs hb1 hb2 h1 h2 h3 h4 h5 h6 k
end
end K31
/-! K31, the law's defs 2: what it draws. -/
namespace K31
open PySem PySem.Spec PyProof.Rows L2 GxR
open PySem.W (Frag)
open TL (tl)
/-- a def that draws something of which P holds -/
def spLD (P : V → Hp → Prop) : Sp := fun vs H Q _ => ∃ (d c : Addr), vs = [.ref d] ∧ St0 H d c ∧ ∀ v H', P v H' → X1 d H H' → St0 H' d c → Q v H'
def pName : V → Hp → Prop := fun v _ => ∃ x, v = .str x ∧ OkName x
def pNum : V → Hp → Prop := fun v _ => ∃ n, v = .int n ∧ OkNum n
def pDat (K : Frag) {α : Type} (dd : α → PyData) (ok : α → Prop) : V → Hp → Prop := fun v H => ∃ c, ok c ∧ Dp K H v (dd c)
abbrev pChg (K : Frag) := pDat K Chg.d OkChg
abbrev pClr (K : Frag) := pDat K Clr.d OkClr
abbrev pMsg (K : Frag) := pDat K Msg.d OkMsg
abbrev pReq (K : Frag) := pDat K Req.d OkReq
theorem ld {P : V → Hp → Prop} {σ : L2.St} {H : Hp} {Q : VK} {d c : Addr} {i : Nat} (hi : σ[i]? = some (some (.ref d))) (h : St0 H d c) (k : ∀ v H', P v H' → X1 d H H' → St0 H' d c → Q v H') : tCall (spLD P) [] E0 (tCons (tVar i) tNil) σ H Q := ⟨_, hi, d, c, rfl, h, k⟩
theorem ldraw {σ : L2.St} {H : Hp} {Q : VK} {d c : Addr} {i : Nat} {b : Int} (hi : σ[i]? = some (some (.ref d))) (h : St0 H d c) (h1 : 1 ≤ b) (h2 : b < 1073741824) (k : ∀ n H', 0 ≤ n → n < b → X1 d H H' → St0 H' d c → Q (.int n) H') :
    tCall spDraw [] E0 (tCons (tVar i) (tCons (tC (.int b)) tNil)) σ H Q := ⟨_, hi, d, c, b, rfl, h, h1, h2, k⟩
def spStart (K : Frag) : Sp := fun vs H Q _ => ∃ (p : Addr) (ns : List Int), vs = [.ref p] ∧ SqL K H p (ns.map V.int) ∧ ns.length ≤ 500 ∧ ∀ d c H', X0 H H' → St0 H' d c → Q (.ref d) H'
def spPick (K : Frag) : Sp := fun vs H Q _ => ∃ (d c l : Addr) (xs : List V), vs = [.ref d, .ref l] ∧ St0 H d c ∧ SqL K H l xs ∧ 1 ≤ xs.length ∧ xs.length ≤ 1000 ∧ ∀ v H', v ∈ xs → X1 d H H' → St0 H' d c → Q v H'
theorem tl_cat : ∀ l : List Str, tl (Txt.join Str.empty l) = (l.map tl).flatten
  | [] => rfl
  | [x] => by
    rw [jn_one]
    show tl x = tl x ++ []
    rw [List.append_nil]
  | x :: y :: r => by
    rw [jn_cons, TL.tl_append, TL.tl_append, tl_empty, List.append_nil, tl_cat (y :: r)]
    rfl
theorem flat_one : ∀ cs : List Nat, ((cs.map fun c => (⟨#[c]⟩ : Str)).map tl).flatten = cs
  | [] => rfl
  | c :: r => by
    show c :: ((r.map fun c => (⟨#[c]⟩ : Str)).map tl).flatten = c :: r
    rw [flat_one r]
theorem caps_at {n : Int} (h0 : 0 ≤ n) (h1 : n < 26) : ∃ c, Cap c ∧ atI ("ABCDEFGHIJKLMNOPQRSTUVWXYZ" : Str).cps.toList n = some c := by
  obtain ⟨k, rfl⟩ := num_nat h0
  have e : ("ABCDEFGHIJKLMNOPQRSTUVWXYZ" : Str).cps.toList = List.range' 65 26 := by decide +kernel
  rw [e]
  refine ⟨65 + k, by unfold Cap; omega, atI_nat ?_⟩
  rw [List.getElem?_range' (by omega)]
  simp
theorem nchs_at {n : Int} (h0 : 0 ≤ n) (h1 : n < 36) : ∃ c, (Cap c ∨ Dig c) ∧ atI ("ABCDEFGHIJKLMNOPQRSTUVWXYZ0123456789" : Str).cps.toList n = some c := by
  obtain ⟨k, rfl⟩ := num_nat h0
  have e : ("ABCDEFGHIJKLMNOPQRSTUVWXYZ0123456789" : Str).cps.toList = List.range' 65 26 ++ List.range' 48 10 := by decide +kernel
  rw [e]
  by_cases hk : k < 26
  · refine ⟨65 + k, .inl (by unfold Cap; omega), atI_nat ?_⟩
    rw [List.getElem?_append_left (by simpa using hk), List.getElem?_range' (by omega)]
    simp
  · refine ⟨48 + (k - 26), .inr (by unfold Dig; omega), atI_nat ?_⟩
    rw [List.getElem?_append_right (by simp; omega), List.length_range', List.getElem?_range' (by omega)]
    simp
section
variable {a : Ad} {w : World} {K : Frag} {mg : Str → Option Value} {base : Heap}
theorem ok_start (T : TT a K mg base) (D : Df K mg "_law_start" s_law_start) : Dn Pg w K mg base CX0 3 "_law_start" ["_law_script"] (spStart K) := by
  refine D.dn (fun _ _ _ _ _ _ us hl => match us, hl with | [_], _ => rfl) fun f fd F => ?_
  refine F.ok (k := 2) sc_law_start ?_ fun cdv A outer s H vs Q E hr h => ?_
  · rintro vs H Q E ⟨p, ns, rfl, _⟩
    rfl
  have nd := sc_law_start.nd
  refine ⟨_, pss_one (ps_ret (pe_disp (pps_cons pe_str (pe_lc (own := [("_law_cell", 1)]) (g := gName 1) (tt := tYes) (by rfl) nd (pi_list (pv 0)) (blkOk_by (own := [("_law_cell", 1)]) (N := ["_law_script", "_law_cell"]) (sc := defScope s_law_start) (by decide +kernel))
        (fun _ _ _ _ _ => pg_name (i := 1) nd rfl (.inl rfl)) (fun _ _ _ _ _ => pts_nil) (fun _ _ _ _ _ => pe_callB call_abs (by rfl) (T.no "abs") (by decide +kernel) (pa_cons (pe_callTy call_int1 (by rfl) (T.no "int") (by decide +kernel) (pa_cons (pv 1) pa_nil)) pa_nil)))
      (pps_cons pe_str pe_int (pps_cons pe_str pe_int (pps_cons pe_str (pe_op op_add pe_int (pe_callB call_len_seq (by rfl) (T.no "len") PySem.boot_len (pa_cons (pv 0) pa_nil))) pps_nil)))) (by rfl) (by rfl) (fun z => by cases z) (by decide))), ?_⟩
  obtain ⟨p, ns, rfl, hp, hn, k⟩ := h
  intro d nd'
  have x0 : X0 H (upd H d (.dK [])) := Ext.new nd'
  refine ⟨_, rfl, p, rfl, ⟨_, x0.sqL ns0 hp⟩, fun D nD => lc_list (K := K) (a := p) (xs := ns.map V.int) (fun i G => X0 (upd H d (.dK [])) G ∧ G D = some (.lst ((ns.take i).map fun n => V.int (if n < 0 then -n else n)))) ⟨Ext.new nD, upd_same⟩ (fun i G _ hP => hP.1.sqL ns0 (x0.sqL ns0 hp)) (fun i x G hi hP => ?_) (fun G hP => ?_)⟩
  · obtain ⟨x1, hl⟩ := hP
    rw [List.getElem?_map] at hi
    obtain ⟨n, hn1, rfl⟩ := Option.map_eq_some_iff.mp hi
    refine ⟨rfl, ?_⟩
    have li : i < ns.length := (List.getElem?_eq_some_iff.mp hn1).1
    refine ⟨_, rfl, .inl ⟨n, rfl, n, rfl, _, hl, small1000 (by rw [List.length_map, List.length_take]; omega), Ext.ownL x1 nD hl, ?_⟩⟩
    rw [upd_same, take_succ hn1, List.map_append]
    rfl
  · obtain ⟨x1, hl⟩ := hP
    rw [List.length_map, List.take_length] at hl
    have hd : G d = some (.dK []) := x1.keep d _ upd_same id fun _ z => by cases z
    refine ⟨_, rfl, p, _, rfl, .inl (x1.sqL ns0 (x0.sqL ns0 hp)), _, _, rfl, rfl, hd, [(.inr "cells", .ref D), (.inr "at", .int 0), (.inr "left", .int 0), (.inr "mix", .int (7 + (ns.map V.int).length))], rfl, (by show 4 ≤ 15; decide), ?_⟩
    have em : mergeK [] [((.inr "cells" : Key), V.ref D), (.inr "at", .int 0), (.inr "left", .int 0), (.inr "mix", .int (7 + (ns.map V.int).length))] = dkv D 0 0 (7 + (ns.length : Int)) := by
      simp [mergeK, putK, dkv, se_ca, se_cl, se_cm, se_al, se_am, se_lm]
    rw [em]
    have dD : D ≠ d := ne_of hl hd (by intro z; cases z)
    refine k d D _ (Ext.own (o := .dK (dkv D 0 0 (7 + (ns.length : Int)))) (x0.trans x1) nd' hd (fun _ z => by cases z)) ⟨0, 0, _, ns.map fun n => if n < 0 then -n else n, upd_same, by rw [upd_ne dD, hl, List.map_map]; rfl, fun x hx => ?_, by decide, by omega, by omega⟩
    obtain ⟨n, _, rfl⟩ := List.mem_map.mp hx
    split <;> omega
theorem ok_pick (T : TT a K mg base) (DD : Df K mg "_law_draw" s_law_draw) (D : Df K mg "_law_pick" s_law_pick) : Dn Pg w K mg base CX0 5 "_law_pick" ["_law_state", "_law_things"] (spPick K) := by
  refine D.dn (fun _ _ _ _ _ _ us hl => match us, hl with | [_, _], _ => rfl) fun f fd F => ?_
  refine F.ok (k := 4) sc_law_pick ?_ fun cdv A outer s H vs Q E hr h => ?_
  · rintro vs H Q E ⟨d, c, l, xs, rfl, _⟩
    rfl
  have R := ok_draw (w := w) T DD
  refine ⟨_, pss_one (ps_ret (pe_ix ix_list (pv 1) (pe_df R (hr.mono (by decide)) (pa_cons (pv 0) (pa_cons (pe_callB call_len_seq (by rfl) (T.no "len") PySem.boot_len (pa_cons (pv 1) pa_nil)) pa_nil))) (fun _ _ => rfl))), ?_⟩
  obtain ⟨d, c, l, xs, rfl, h0, hl, l1, l2, k⟩ := h
  refine ⟨_, rfl, _, rfl, _, rfl, l, _, rfl, .inl hl, d, c, (xs.length : Int), rfl, h0, by omega, by omega, fun n H' n0 n1 x1 s1 => ?_⟩
  obtain ⟨j, rfl⟩ := num_nat n0
  have hj : j < xs.length := by omega
  exact ⟨l, _, _, _, rfl, rfl, x1.sqL h0.ns hl, atI_nat (List.getElem?_eq_getElem hj), k _ H' (List.getElem_mem hj) x1 s1⟩
theorem ok_lname (T : TT a K mg base) (DD : Df K mg "_law_draw" s_law_draw) (D : Df K mg "_law_name" s_law_name) : Dn Pg w K mg base CX0 7 "_law_name" ["_law_state"] (spLD pName) := by
  refine D.dn (fun _ _ _ _ _ _ us hl => match us, hl with | [_], _ => rfl) fun f fd F => ?_
  refine F.ok (k := 6) sc_law_name ?_ fun cdv A outer s H vs Q E hr h => ?_
  · rintro vs H Q E ⟨d, c, rfl, _⟩
    rfl
  have nd := sc_law_name.nd
  have R := ok_draw (w := w) T DD
  have r3 : Room 3 _ := hr.mono (by decide)
  refine ⟨_, pss_cons (ps_set (i := 1) nd rfl (.inl rfl) (pe_ix ix_str pe_str (pe_df R r3 (pa_cons (pv 0) (pa_cons pe_int pa_nil))) (fun _ _ => rfl)))
    (pss_cons (ps_set (i := 2) nd rfl (.inr rfl) pe_str)
    (pss_one (ps_ret (pe_op op_add_str (pv 1) (pe_join pe_str (pe_lc (own := [("_law_k", 3)]) (g := gName 3) (tt := tYes) (by rfl) nd (pi_range1 (by rfl) (T.no "range") (pa_cons (pe_df R r3 (pa_cons (pv 0) (pa_cons pe_int pa_nil))) pa_nil)) (blkOk_by (own := [("_law_k", 3)]) (N := ["_law_state", "_law_first", "_law_signs", "_law_k"]) (sc := defScope s_law_name) (by decide +kernel))
        (fun _ _ _ _ _ => pg_name (i := 3) nd rfl (.inl rfl)) (fun _ _ _ _ _ => pts_nil) (fun _ _ _ _ _ => pe_ix ix_str (pv 2) (pe_df R r3 (pa_cons (pv 0) (pa_cons pe_int pa_nil))) (fun _ _ => rfl)))))))), ?_⟩
  obtain ⟨d, c, rfl, h0, k⟩ := h
  refine ldraw rfl h0 (by decide) (by decide) fun n H1 n0 n1 x1 s1 => ?_
  obtain ⟨c0, hc0, at0⟩ := caps_at n0 n1
  refine ⟨_, _, c0, rfl, rfl, (by decide +kernel), at0, ?_⟩
  refine ⟨_, rfl, ⟨_, rfl⟩, ?_⟩
  refine ldraw rfl s1 (by decide) (by decide) fun m H2 m0 m1 x2 s2 => ?_
  have x12 := x1.trans x2
  refine ⟨m, rfl, by omega, by omega, fun D nD => lc_range (lo := 0) (n := m.toNat) (fun i G => X1 d H2 G ∧ St0 G d c ∧ ∃ cs : List Nat, cs.length = i ∧ (∀ y ∈ cs, Cap y ∨ Dig y) ∧ G D = some (.lst ((cs.map fun y => (⟨#[y]⟩ : Str)).map V.str))) ⟨Ext.new nD, s2.new nD, [], rfl, all_nil, upd_same⟩ (fun i G hi hP => ?_) (fun G hP => ?_)⟩
  · obtain ⟨x3, s3, cs, lc, hcs, hG⟩ := hP
    refine ⟨rfl, ?_⟩
    refine ⟨_, rfl, ?_⟩
    refine ldraw rfl s3 (by decide) (by decide) fun j H4 j0 j1 x4 s4 => ?_
    obtain ⟨y, hy, aty⟩ := nchs_at j0 j1
    have hG4 : H4 D = some (.lst ((cs.map fun y => (⟨#[y]⟩ : Str)).map V.str)) := x4.seq s3.ns hG rfl
    refine ⟨_, _, y, rfl, rfl, (by decide +kernel), aty, _, hG4, small1000 (by rw [List.length_map, List.length_map]; omega), Ext.ownL (x3.trans x4) nD hG4, s4.own (s2.apart nD), cs ++ [y], by rw [List.length_append, lc] <;> rfl, all_app hcs (all_cons hy all_nil), ?_⟩
    rw [upd_same, List.map_append, List.map_append]
    rfl
  · obtain ⟨x3, s3, cs, lc, hcs, hG⟩ := hP
    have ej : tl (Txt.join Str.empty (cs.map fun y => (⟨#[y]⟩ : Str))) = cs := by rw [tl_cat, flat_one]
    have el : (Txt.join Str.empty (cs.map fun y => (⟨#[y]⟩ : Str))).length = cs.length := by rw [TL.len_tl, ej]
    refine ⟨Str.empty, D, cs.map fun y => (⟨#[y]⟩ : Str), rfl, rfl, .inl (SqL.of hG), join_ok (k := 1) (n := 4) (fun w hw => ?_) (by rw [List.length_map]; omega) (by decide +kernel), _, _, rfl, rfl, ?_, ?_⟩
    · obtain ⟨y, _, rfl⟩ := List.mem_map.mp hw
      exact Nat.le_refl 1
    · rw [el]
      exact szl (by show 1 + cs.length ≤ _; omega)
    · refine k _ G ⟨_, rfl, c0, cs, ?_, hc0, by omega, hcs⟩ (x12.trans x3) s3
      rw [TL.tl_append, ej]
      rfl
theorem ok_lnumber (T : TT a K mg base) (DD : Df K mg "_law_draw" s_law_draw) (DP : Df K mg "_law_pick" s_law_pick) (D : Df K mg "_law_number" s_law_number) : Dn Pg w K mg base CX0 7 "_law_number" ["_law_state"] (spLD pNum) := by
  refine D.dn (fun _ _ _ _ _ _ us hl => match us, hl with | [_], _ => rfl) fun f fd F => ?_
  refine F.ok (k := 6) sc_law_number ?_ fun cdv A outer s H vs Q E hr h => ?_
  · rintro vs H Q E ⟨d, c, rfl, _⟩
    rfl
  have R := ok_draw (w := w) T DD
  have R2 := ok_pick (w := w) T DD DP
  refine ⟨_, pss_one (ps_ret (pe_df R (hr.mono (by decide)) (pa_cons (pv 0) (pa_cons (pe_df R2 (hr.mono (by decide)) (pa_cons (pv 0) (pa_cons (pe_lst (pa_cons pe_int (pa_cons pe_int (pa_cons pe_int (pa_cons (pe_op op_pow pe_int pe_int) pa_nil))))) pa_nil))) pa_nil)))), ?_⟩
  obtain ⟨d, c, rfl, h0, k⟩ := h
  refine ⟨_, rfl, _, rfl, _, _, rfl, rfl, ⟨by decide, by decide, by decide⟩, (by show 4 ≤ sizeLine; decide), fun l nl => ?_⟩
  refine ⟨d, c, l, _, rfl, h0.new nl, SqL.of upd_same, (by show 1 ≤ 4; decide), (by show 4 ≤ 1000; decide), fun v H1 hv x1 s1 => ?_⟩
  obtain ⟨b, rfl, b1, b2⟩ : ∃ b : Int, v = .int b ∧ 1 ≤ b ∧ b ≤ 1000000000 := by
    rcases List.mem_cons.mp hv with rfl | hv
    · exact ⟨2, rfl, by decide, by decide⟩
    · rcases List.mem_cons.mp hv with rfl | hv
      · exact ⟨10, rfl, by decide, by decide⟩
      · rcases List.mem_cons.mp hv with rfl | hv
        · exact ⟨1000, rfl, by decide, by decide⟩
        · rw [List.mem_singleton.mp hv]
          exact ⟨_, rfl, by decide, by decide⟩
  refine ⟨d, c, b, rfl, s1, b1, by omega, fun n H2 n0 n1 x2 s2 => k _ H2 ⟨n, rfl, n0, by omega⟩ (((Ext.new nl : X1 d _ _).trans x1).trans x2) s2⟩
end
end K31
/-! K31, the law's defs 3: changes, clearances, messages, requests. -/
namespace K31
open PySem PySem.Spec PyProof.Rows L2 GxR
open PySem.W (Frag)
open TL (tl)
/-- the defs that draw -/
structure Dr (w : World) (K : Frag) (mg : Str → Option Value) (base : Heap) : Prop where
  draw : Dn Pg w K mg base CX0 3 "_law_draw" ["_law_state", "_law_bound"] spDraw
  pick : Dn Pg w K mg base CX0 5 "_law_pick" ["_law_state", "_law_things"] (spPick K)
  name : Dn Pg w K mg base CX0 7 "_law_name" ["_law_state"] (spLD pName)
  num : Dn Pg w K mg base CX0 7 "_law_number" ["_law_state"] (spLD pNum)
section
variable {a : Ad} {w : World} {K : Frag} {mg : Str → Option Value} {base : Heap}
theorem ok_lchange (T : TT a K mg base) (R : Dr w K mg base) (D : Df K mg "_law_change" s_law_change) : Dn Pg w K mg base CX0 9 "_law_change" ["_law_state"] (spLD (pChg K)) := by
  refine D.dn (fun _ _ _ _ _ _ us hl => match us, hl with | [_], _ => rfl) fun f fd F => ?_
  refine F.ok (k := 8) sc_law_change ?_ fun cdv A outer s H vs Q E hr h => ?_
  · rintro vs H Q E ⟨d, c, rfl, _⟩
    rfl
  have nd := sc_law_change.nd
  have r3 : Room 3 _ := hr.mono (by decide)
  have r7 : Room 7 _ := hr.mono (by decide)
  refine ⟨_, pss_cons (ps_set (i := 1) nd rfl (.inl rfl) (pe_df R.draw r3 (pa_cons (pv 0) (pa_cons pe_int pa_nil))))
    (pss_cons (ps_if (pt_cmpR op_eq (pv 1) pe_int (nomark _)) (pss_one (ps_ret (pe_tup (pa_cons pe_str (pa_cons (pe_df R.num r7 (pa_cons (pv 0) pa_nil)) pa_nil))))) pss_nil)
    (pss_cons (ps_if (pt_cmpR op_eq (pv 1) pe_int (nomark _)) (pss_one (ps_ret (pe_tup (pa_cons pe_str (pa_cons (pe_df R.num r7 (pa_cons (pv 0) pa_nil)) pa_nil))))) pss_nil)
    (pss_one (ps_ret (pe_tup (pa_cons pe_str (pa_cons (pe_callTy call_tuple_of (by rfl) (T.no "tuple") (by decide +kernel) (pa_cons (pe_lc (own := [("_law_k", 2)]) (g := gName 2) (tt := tYes) (by rfl) nd (pi_range1 (by rfl) (T.no "range") (pa_cons (pe_op op_add pe_int (pe_df R.draw r3 (pa_cons (pv 0) (pa_cons pe_int pa_nil)))) pa_nil))
        (blkOk_by (own := [("_law_k", 2)]) (N := ["_law_state", "_law_kind", "_law_k"]) (sc := defScope s_law_change) (by decide +kernel)) (fun _ _ _ _ _ => pg_name (i := 2) nd rfl (.inl rfl)) (fun _ _ _ _ _ => pts_nil) (fun _ _ _ _ _ => pe_df R.name r7 (pa_cons (pv 0) pa_nil))) pa_nil)) pa_nil))))))), ?_⟩
  obtain ⟨d, c, rfl, h0, k⟩ := h
  refine ldraw rfl h0 (by decide) (by decide) fun n H1 n0 n1 x1 s1 => ?_
  refine ⟨_, rfl, rfl, _, rfl, ite2 (fun _ => ?_) fun _ => ⟨_, rfl, rfl, _, rfl, ite2 (fun _ => ?_) fun _ => ?_⟩⟩
  · refine ld rfl s1 fun v H2 hv x2 s2 => ⟨(by show 2 ≤ sizeLine; decide), fun t nt => ?_⟩
    obtain ⟨m, rfl, om⟩ := hv
    exact k _ _ ⟨.lvl m, om, dp_newT upd_same (.cons (.str _) (.cons (.int _) .nil))⟩ ((x1.trans x2).trans (Ext.new nt)) (s2.new nt)
  · refine ld rfl s1 fun v H2 hv x2 s2 => ⟨(by show 2 ≤ sizeLine; decide), fun t nt => ?_⟩
    obtain ⟨m, rfl, om⟩ := hv
    exact k _ _ ⟨.spd m, om, dp_newT upd_same (.cons (.str _) (.cons (.int _) .nil))⟩ ((x1.trans x2).trans (Ext.new nt)) (s2.new nt)
  · refine ldraw rfl s1 (by decide) (by decide) fun m H2 m0 m1 x2 s2 => ?_
    refine ⟨_, _, rfl, rfl, 2 + m, rfl, by omega, by omega, fun D nD => lc_range (lo := 0) (n := (2 + m).toNat) (fun i G => X1 d H2 G ∧ St0 G d c ∧ ∃ ns : List Str, ns.length = i ∧ (∀ y ∈ ns, OkName y) ∧ G D = some (.lst (ns.map V.str))) ⟨Ext.new nD, s2.new nD, [], rfl, all_nil, upd_same⟩ (fun i G hi hP => ?_) (fun G hP => ?_)⟩
    · obtain ⟨x3, s3, ns, ln, hns, hG⟩ := hP
      refine ⟨rfl, ?_⟩
      refine ld rfl s3 fun v H4 hv x4 s4 => ?_
      obtain ⟨y, rfl, oy⟩ := hv
      have hG4 : H4 D = some (.lst (ns.map V.str)) := x4.seq s3.ns hG rfl
      refine ⟨_, hG4, small1000 (by rw [List.length_map]; omega), Ext.ownL (x3.trans x4) nD hG4, s4.own (s2.apart nD), ns ++ [y], by rw [List.length_append, ln] <;> rfl, all_app hns (all_cons oy all_nil), ?_⟩
      rw [upd_same, List.map_append]
      rfl
    · obtain ⟨x3, s3, ns, ln, hns, hG⟩ := hP
      refine ⟨D, _, rfl, .inl ⟨SqL.of hG, fun t nt => ⟨(by show 2 ≤ sizeLine; decide), fun u nu => ?_⟩⟩⟩
      refine k _ _ ⟨.rt ns, ⟨by omega, by omega, hns⟩, dp_newT upd_same (.cons (.str _) (.cons ?_ .nil))⟩ ((((x1.trans x2).trans x3).trans (Ext.new nt)).trans (Ext.new nu)) ((s3.new nt).new nu)
      exact (Ext.new nu : X0 _ _).dp0 (dp_newT upd_same (strs_dpa ns))
theorem ok_lclear (T : TT a K mg base) (R : Dr w K mg base) (DC : Df K mg "_law_change" s_law_change) (D : Df K mg "_law_clearance" s_law_clearance) : Dn Pg w K mg base CX0 11 "_law_clearance" ["_law_state"] (spLD (pClr K)) := by
  refine D.dn (fun _ _ _ _ _ _ us hl => match us, hl with | [_], _ => rfl) fun f fd F => ?_
  refine F.ok (k := 10) sc_law_clearance ?_ fun cdv A outer s H vs Q E hr h => ?_
  · rintro vs H Q E ⟨d, c, rfl, _⟩
    rfl
  have C := ok_lchange T R DC
  have r7 : Room 7 _ := hr.mono (by decide)
  refine ⟨_, pss_one (ps_ret (pe_tup (pa_cons (pe_df R.name r7 (pa_cons (pv 0) pa_nil)) (pa_cons (pe_df R.num r7 (pa_cons (pv 0) pa_nil)) (pa_cons (pe_df R.num r7 (pa_cons (pv 0) pa_nil)) (pa_cons (pe_df C (hr.mono (by decide)) (pa_cons (pv 0) pa_nil)) pa_nil)))))), ?_⟩
  obtain ⟨d, c, rfl, h0, k⟩ := h
  refine ld rfl h0 fun v1 H1 hv1 x1 s1 => ld rfl s1 fun v2 H2 hv2 x2 s2 => ld rfl s2 fun v3 H3 hv3 x3 s3 => ld rfl s3 fun v4 H4 hv4 x4 s4 => ⟨(by show 4 ≤ sizeLine; decide), fun t nt => ?_⟩
  obtain ⟨y, rfl, oy⟩ := hv1
  obtain ⟨n1, rfl, o1⟩ := hv2
  obtain ⟨n2, rfl, o2⟩ := hv3
  obtain ⟨ch, oc, dc⟩ := hv4
  exact k _ _ ⟨⟨y, n1, n2, ch⟩, ⟨oy, o1, o2, oc⟩, dp_newT upd_same (.cons (.str _) (.cons (.int _) (.cons (.int _) (.cons ((Ext.new nt : X0 _ _).dp0 dc) .nil))))⟩ ((((x1.trans x2).trans x3).trans x4).trans (Ext.new nt)) (s4.new nt)
theorem ok_lmessage (T : TT a K mg base) (R : Dr w K mg base) (DC : Df K mg "_law_change" s_law_change) (DL : Df K mg "_law_clearance" s_law_clearance) (D : Df K mg "_law_message" s_law_message) : Dn Pg w K mg base CX0 13 "_law_message" ["_law_state"] (spLD (pMsg K)) := by
  refine D.dn (fun _ _ _ _ _ _ us hl => match us, hl with | [_], _ => rfl) fun f fd F => ?_
  refine F.ok (k := 12) sc_law_message ?_ fun cdv A outer s H vs Q E hr h => ?_
  · rintro vs H Q E ⟨d, c, rfl, _⟩
    rfl
  have nd := sc_law_message.nd
  have C := ok_lclear T R DC DL
  have r7 : Room 7 _ := hr.mono (by decide)
  refine ⟨_, pss_cons (ps_set (i := 1) nd rfl (.inl rfl) (pe_df R.pick (hr.mono (by decide)) (pa_cons (pv 0) (pa_cons (pe_lst (pa_cons pe_str (pa_cons pe_str (pa_cons pe_str (pa_cons pe_str (pa_cons pe_str (pa_cons pe_str pa_nil))))))) pa_nil))))
    (pss_cons (ps_if (pt_cmpR op_in_seq (pv 1) (pe_lst (pa_cons pe_str (pa_cons pe_str (pa_cons pe_str pa_nil)))) rfl) (pss_one (ps_ret (pe_tup (pa_cons (pv 1) (pa_cons (pe_df R.name r7 (pa_cons (pv 0) pa_nil)) (pa_cons (pe_df R.num r7 (pa_cons (pv 0) pa_nil)) pa_nil)))))) pss_nil)
    (pss_one (ps_ret (pe_tup (pa_cons (pv 1) (pa_cons (pe_df C (hr.mono (by decide)) (pa_cons (pv 0) pa_nil)) pa_nil)))))), ?_⟩
  obtain ⟨d, c, rfl, h0, k⟩ := h
  refine ⟨_, rfl, (by show 6 ≤ sizeLine; decide), fun l nl => ?_⟩
  refine ⟨d, c, l, _, rfl, h0.new nl, SqL.of upd_same, (by show 1 ≤ 6; decide), (by show 6 ≤ 1000; decide), fun v H1 hv x1 s1 => ?_⟩
  have x01 := (Ext.new nl : X1 d _ _).trans x1
  obtain ⟨kd, rfl, hk⟩ : ∃ kd : LK ⊕ SK, v = .str (match kd with | .inl k => k.lo | .inr k => k.lo) ∧ True := by
    have hv : v ∈ ([("say" : Str), "read", "confirm", "ask", "taken", "not"] : List Str).map V.str := hv
    obtain ⟨z, hz, rfl⟩ := List.mem_map.mp hv
    rcases List.mem_cons.mp hz with rfl | hz
    · exact ⟨.inl .say, rfl, trivial⟩
    rcases List.mem_cons.mp hz with rfl | hz
    · exact ⟨.inl .read, rfl, trivial⟩
    rcases List.mem_cons.mp hz with rfl | hz
    · exact ⟨.inl .confirm, rfl, trivial⟩
    rcases List.mem_cons.mp hz with rfl | hz
    · exact ⟨.inr .ask, rfl, trivial⟩
    rcases List.mem_cons.mp hz with rfl | hz
    · exact ⟨.inr .taken, rfl, trivial⟩
    rw [List.mem_singleton.mp hz]
    exact ⟨.inr .not, rfl, trivial⟩
  refine ⟨_, rfl, (by show 3 ≤ sizeLine; decide), fun l2 nl2 => ⟨l2, _, rfl, .inl (SqL.of upd_same), rfl, flat_strs ["ask", "taken", "not"], _, rfl, ?_⟩⟩
  have s2 := s1.new nl2 (o := .lst [.str "ask", .str "taken", .str "not"])
  have x2 := x01.trans (Ext.new nl2 : X1 d _ (upd H1 l2 (.lst [.str "ask", .str "taken", .str "not"])))
  cases kd with
  | inl kk =>
    refine if_f (show inV (.str kk.lo) ((([("ask" : Str), "taken", "not"] : List Str)).map V.str) = false by rw [in_strs]; cases kk <;> decide +kernel) ?_
    refine ⟨_, rfl, ?_⟩
    refine ld rfl s2 fun v4 H4 hv4 x4 s4 => ⟨(by show 2 ≤ sizeLine; decide), fun t nt => ?_⟩
    obtain ⟨cl, oc, dc⟩ := hv4
    exact k _ _ ⟨.long kk cl, oc, dp_newT upd_same (.cons (.str _) (.cons ((Ext.new nt : X0 _ _).dp0 dc) .nil))⟩ ((x2.trans x4).trans (Ext.new nt)) (s4.new nt)
  | inr kk =>
    refine if_t (show inV (.str kk.lo) ((([("ask" : Str), "taken", "not"] : List Str)).map V.str) = true by rw [in_strs]; cases kk <;> decide +kernel) ?_
    refine ⟨_, rfl, ?_⟩
    refine ld rfl s2 fun v4 H4 hv4 x4 s4 => ld rfl s4 fun v5 H5 hv5 x5 s5 => ⟨(by show 3 ≤ sizeLine; decide), fun t nt => ?_⟩
    obtain ⟨y, rfl, oy⟩ := hv4
    obtain ⟨n, rfl, on⟩ := hv5
    exact k _ _ ⟨.short kk y n, ⟨oy, on⟩, dp_newT upd_same (.cons (.str _) (.cons (.str _) (.cons (.int _) .nil)))⟩ (((x2.trans x4).trans x5).trans (Ext.new nt)) (s5.new nt)
theorem ok_lrequest (T : TT a K mg base) (R : Dr w K mg base) (D : Df K mg "_law_any_request" s_law_any_request) : Dn Pg w K mg base CX0 9 "_law_any_request" ["_law_state"] (spLD (pReq K)) := by
  refine D.dn (fun _ _ _ _ _ _ us hl => match us, hl with | [_], _ => rfl) fun f fd F => ?_
  refine F.ok (k := 8) sc_law_any_request ?_ fun cdv A outer s H vs Q E hr h => ?_
  · rintro vs H Q E ⟨d, c, rfl, _⟩
    rfl
  have nd := sc_law_any_request.nd
  have r7 : Room 7 _ := hr.mono (by decide)
  refine ⟨_, pss_cons (ps_set (i := 1) nd rfl (.inl rfl) (pe_callTy call_tuple_of (by rfl) (T.no "tuple") (by decide +kernel) (pa_cons (pe_lc (own := [("_law_k", 3)]) (g := gName 3) (tt := tYes) (by rfl) nd (pi_range1 (by rfl) (T.no "range") (pa_cons pe_int pa_nil))
        (blkOk_by (own := [("_law_k", 3)]) (N := ["_law_state", "_law_kind", "_law_numbers", "_law_k"]) (sc := defScope s_law_any_request) (by decide +kernel)) (fun _ _ _ _ _ => pg_name (i := 3) nd rfl (.inl rfl)) (fun _ _ _ _ _ => pts_nil) (fun _ _ _ _ _ => pe_df R.num r7 (pa_cons (pv 0) pa_nil))) pa_nil)))
    (pss_cons (ps_setLc (i := 2) (own := [("_law_k", 3)]) (g := gName 3) (tt := tYes) (by rfl) nd rfl rfl (sw_true rfl rfl rfl (by decide +kernel)) (pi_range1 (by rfl) (T.no "range") (pa_cons pe_int pa_nil))
        (blkOk_by (own := [("_law_k", 3)]) (N := ["_law_state", "_law_kind", "_law_numbers", "_law_k"]) (sc := defScope s_law_any_request) (by decide +kernel)) (fun _ _ _ _ _ => pg_name (i := 3) nd rfl (.inl rfl)) (fun _ _ _ _ _ => pts_nil) (fun _ _ _ _ _ => pe_df R.num r7 (pa_cons (pv 0) pa_nil)))
    (pss_one (ps_ret (pe_tup (pa_cons (pe_df R.name r7 (pa_cons (pv 0) pa_nil)) (pa_cons (pv 1) (pa_cons (pe_df R.name r7 (pa_cons (pv 0) pa_nil)) (pa_cons (pe_df R.name r7 (pa_cons (pv 0) pa_nil))
      (pa_cons (pe_ix ix_list (pv 2) pe_int (fun _ _ => rfl)) (pa_cons (pe_ix ix_list (pv 2) pe_int (fun _ _ => rfl)) (pa_cons (pe_ix ix_list (pv 2) pe_int (fun _ _ => rfl)) (pa_cons (pe_ix ix_list (pv 2) pe_int (fun _ _ => rfl)) pa_nil)))))))))))), ?_⟩
  obtain ⟨d, c, rfl, h0, k⟩ := h
  have turn : ∀ {G0 : Hp} {D : Addr}, G0 D = none → St0 G0 d c → ∀ {i : Nat} {G : Hp}, i ≤ 100 → (X1 d G0 G ∧ St0 G d c ∧ ∃ ns : List Int, ns.length = i ∧ (∀ y ∈ ns, OkNum y) ∧ G D = some (.lst (ns.map V.int))) → ∀ {v : V} {H4 : Hp}, pNum v H4 → X1 d G H4 → St0 H4 d c →
      ∃ acc, H4 D = some (.lst acc) ∧ acc.length < sizeLine ∧ (X1 d G0 (upd H4 D (.lst (acc ++ [v]))) ∧ St0 (upd H4 D (.lst (acc ++ [v]))) d c ∧ ∃ ns : List Int, ns.length = i + 1 ∧ (∀ y ∈ ns, OkNum y) ∧ (upd H4 D (.lst (acc ++ [v]))) D = some (.lst (ns.map V.int))) := by
    intro G0 D nD s0 i G hi hP v H4 hv x4 s4
    obtain ⟨x3, s3, ns, ln, hns, hG⟩ := hP
    obtain ⟨y, rfl, oy⟩ := hv
    have hG4 : H4 D = some (.lst (ns.map V.int)) := x4.seq s3.ns hG rfl
    refine ⟨_, hG4, small1000 (by rw [List.length_map]; omega), Ext.ownL (x3.trans x4) nD hG4, s4.own (s0.apart nD), ns ++ [y], by rw [List.length_append, ln] <;> rfl, all_app hns (all_cons oy all_nil), ?_⟩
    rw [upd_same, List.map_append]
    rfl
  refine ⟨5, rfl, by decide, by decide, fun D nD => lc_range (lo := 0) (n := 5) (fun i G => X1 d H G ∧ St0 G d c ∧ ∃ ns : List Int, ns.length = i ∧ (∀ y ∈ ns, OkNum y) ∧ G D = some (.lst (ns.map V.int))) ⟨Ext.new nD, h0.new nD, [], rfl, all_nil, upd_same⟩ (fun i G hi hP => ?_) (fun G hP => ?_)⟩
  · refine ⟨rfl, ?_⟩
    exact ld rfl hP.2.1 fun v H4 hv x4 s4 => turn nD h0 (by omega) hP hv x4 s4
  · obtain ⟨x1, s1, kd, lkd, hkd, hG⟩ := hP
    refine ⟨D, _, rfl, .inl ⟨SqL.of hG, fun t nt => ?_⟩⟩
    have dk : Dp K (upd G t (.tup (kd.map V.int))) (.ref t) (.tuple (kd.map .int)) := dp_newT upd_same (ints_dpa _)
    have s2 : St0 (upd G t (.tup (kd.map V.int))) d c := s1.new nt
    have x2 : X1 d H (upd G t (.tup (kd.map V.int))) := x1.trans (Ext.new nt)
    refine ⟨4, rfl, by decide, by decide, fun D2 nD2 => lc_range (lo := 0) (n := 4) (fun i G3 => X1 d (upd G t (.tup (kd.map V.int))) G3 ∧ St0 G3 d c ∧ ∃ ns : List Int, ns.length = i ∧ (∀ y ∈ ns, OkNum y) ∧ G3 D2 = some (.lst (ns.map V.int))) ⟨Ext.new nD2, s2.new nD2, [], rfl, all_nil, upd_same⟩ (fun i G3 hi hP => ?_) (fun G3 hP => ?_)⟩
    · refine ⟨rfl, ?_⟩
      exact ld rfl hP.2.1 fun v H4 hv x4 s4 => turn nD2 s2 (by omega) hP hv x4 s4
    · obtain ⟨x3, s3, ns, lns, hns, hG3⟩ := hP
      obtain ⟨a1, a2, a3, a4, rfl⟩ : ∃ a1 a2 a3 a4, ns = [a1, a2, a3, a4] := match ns, lns with
        | [a1, a2, a3, a4], _ => ⟨a1, a2, a3, a4, rfl⟩
      refine ld rfl s3 fun v4 H4 hv4 x4 s4 => ⟨_, rfl, ?_⟩
      refine ld rfl s4 fun v5 H5 hv5 x5 s5 => ld rfl s5 fun v6 H6 hv6 x6 s6 => ?_
      obtain ⟨y1, rfl, o1⟩ := hv4
      obtain ⟨y2, rfl, o2⟩ := hv5
      obtain ⟨y3, rfl, o3⟩ := hv6
      have x456 := (x4.trans x5).trans x6
      have hG6 : H6 D2 = some (.lst ([a1, a2, a3, a4].map V.int)) := x456.seq s3.ns hG3 rfl
      have dk6 := (x3.trans x456).dp s2.ns dk
      refine ⟨_, rfl, D2, _, _, _, rfl, rfl, SqL.of hG6, atI_nat (j := 0) rfl, _, rfl, D2, _, _, _, rfl, rfl, SqL.of hG6, atI_nat (j := 1) rfl, _, rfl, D2, _, _, _, rfl, rfl, SqL.of hG6, atI_nat (j := 2) rfl, _, rfl, D2, _, _, _, rfl, rfl, SqL.of hG6, atI_nat (j := 3) rfl, ?_⟩
      refine ⟨(by show 8 ≤ sizeLine; decide), fun u nu => k _ _ ⟨⟨y1, kd, y2, y3, a1, a2, a3, a4⟩, ⟨o1, lkd, hkd, o2, o3, hns _ (by simp), hns _ (by simp), hns _ (by simp), hns _ (by simp)⟩, ?_⟩ (((x2.trans x3).trans x456).trans (Ext.new nu)) (s6.new nu)⟩
      exact dp_newT upd_same (.cons (.str _) (.cons ((Ext.new nu : X0 _ _).dp0 dk6) (.cons (.str _) (.cons (.str _) (.cons (.int _) (.cons (.int _) (.cons (.int _) (.cons (.int _) .nil))))))))
end
end K31
/-! K31, the law's defs 4: a call is drawn. -/
namespace K31
open PySem PySem.Spec PyProof.Rows L2 GxR
open PySem.W (Frag)
open TL (tl)
/-- the defs that draw, more -/
structure Dr2 (w : World) (K : Frag) (mg : Str → Option Value) (base : Heap) : Prop where
  r : Dr w K mg base
  chg : Dn Pg w K mg base CX0 9 "_law_change" ["_law_state"] (spLD (pChg K))
  msg : Dn Pg w K mg base CX0 13 "_law_message" ["_law_state"] (spLD (pMsg K))
  req : Dn Pg w K mg base CX0 9 "_law_any_request" ["_law_state"] (spLD (pReq K))
def spLCall (K : Frag) : Sp := fun vs H Q _ => ∃ (d c : Addr), vs = [.ref d] ∧ St0 H d c ∧ ∀ cal v H', OkCal cal → Kp K H H' v cal.d → X1 d H H' → St0 H' d c → Q v H'
theorem mul_pm {n m : Int} (h : OkNum n) (hm : m = 1 ∨ m = -1) : OkInt (n * m) := by
  obtain ⟨h1, h2⟩ := h
  rcases hm with rfl | rfl
  · rw [Int.mul_one]
    exact ⟨by omega, h2⟩
  · rw [Int.mul_neg, Int.mul_one]
    exact ⟨by omega, by omega⟩
section
variable {a : Ad} {w : World} {K : Frag} {mg : Str → Option Value} {base : Heap}
/-- one more item at the list D, whose data have no lists -/
theorem item_more {G0 G H4 : Hp} {d c D : Addr} {v : V} {α : Type} {dd : α → PyData} {ok : α → Prop} {cs : List α} {vs : List V} (hn : ∀ x, nlB (dd x) = true) (nD : G0 D = none) (s0 : St0 G0 d c) (x3 : X1 d G0 G) (s3 : St0 G d c) (lc : cs.length ≤ 100) (hcs : ∀ y ∈ cs, ok y) (hG : G D = some (.lst vs)) (hd : DpAll K G vs (cs.map dd))
    (hv : pDat K dd ok v H4) (x4 : X1 d G H4) (s4 : St0 H4 d c) :
    ∃ acc, H4 D = some (.lst acc) ∧ acc.length < sizeLine ∧ (X1 d G0 (upd H4 D (.lst (acc ++ [v]))) ∧ St0 (upd H4 D (.lst (acc ++ [v]))) d c ∧ ∃ (cs' : List α) (vs' : List V), cs'.length = cs.length + 1 ∧ (∀ y ∈ cs', ok y) ∧ (upd H4 D (.lst (acc ++ [v]))) D = some (.lst vs') ∧ DpAll K (upd H4 D (.lst (acc ++ [v]))) vs' (cs'.map dd)) := by
  obtain ⟨x, ox, dx⟩ := hv
  have hG4 : H4 D = some (.lst vs) := x4.seq s3.ns hG rfl
  have lv : vs.length = cs.length := by rw [dpa_len hd, List.length_map]
  refine ⟨_, hG4, small1000 (by omega), Ext.ownL (x3.trans x4) nD hG4, s4.own (s0.apart nD), cs ++ [x], vs ++ [v], by rw [List.length_append] <;> rfl, all_app hcs (all_cons ox all_nil), upd_same, ?_⟩
  rw [List.map_append]
  exact (lst_ext hG4).dpsF (lst_tup hG4) (by rw [← List.map_append]; exact nl_map hn _) (dpa_app (x4.dpAll s3.ns hd) (.cons dx .nil))
theorem ok_lcall (T : TT a K mg base) (R : Dr2 w K mg base) (D : Df K mg "_law_call" s_law_call) : Dn Pg w K mg base CX0 15 "_law_call" ["_law_state"] (spLCall K) := by
  refine D.dn (fun _ _ _ _ _ _ us hl => match us, hl with | [_], _ => rfl) fun f fd F => ?_
  refine F.ok (k := 14) sc_law_call ?_ fun cdv A outer s H vs Q E hr h => ?_
  · rintro vs H Q E ⟨d, c, rfl, _⟩
    rfl
  have nd := sc_law_call.nd
  have r3 : Room 3 _ := hr.mono (by decide)
  have r5 : Room 5 _ := hr.mono (by decide)
  have r7 : Room 7 _ := hr.mono (by decide)
  have r9 : Room 9 _ := hr.mono (by decide)
  refine ⟨_, pss_cons (ps_set (i := 1) nd rfl (.inl rfl) (pe_df R.r.draw r3 (pa_cons (pv 0) (pa_cons pe_int pa_nil))))
    (pss_cons (ps_if (pt_cmpR op_eq (pv 1) pe_int (nomark _)) (pss_one (ps_ret (pe_tup (pa_cons pe_str (pa_cons (pe_lc (own := [("_law_k", 2)]) (g := gName 2) (tt := tYes) (by rfl) nd (pi_range1 (by rfl) (T.no "range") (pa_cons (pe_op op_add pe_int (pe_df R.r.draw r3 (pa_cons (pv 0) (pa_cons pe_int pa_nil)))) pa_nil))
        (blkOk_by (own := [("_law_k", 2)]) (N := ["_law_state", "_law_kind", "_law_k", "_law_changes", "_law_word", "_law_plots", "_law_j"]) (sc := defScope s_law_call) (by decide +kernel)) (fun _ _ _ _ _ => pg_name (i := 2) nd rfl (.inl rfl)) (fun _ _ _ _ _ => pts_nil) (fun _ _ _ _ _ => pe_df R.req r9 (pa_cons (pv 0) pa_nil))) pa_nil))))) pss_nil)
    (pss_cons (ps_if (pt_cmpR op_eq (pv 1) pe_int (nomark _)) (pss_one (ps_ret (pe_tup (pa_cons pe_str (pa_cons (pe_df R.r.name r7 (pa_cons (pv 0) pa_nil)) (pa_cons (pe_df R.r.name r7 (pa_cons (pv 0) pa_nil)) (pa_cons (pe_df R.chg r9 (pa_cons (pv 0) pa_nil)) (pa_cons (pe_df R.r.num r7 (pa_cons (pv 0) pa_nil)) pa_nil)))))))) pss_nil)
    (pss_cons (ps_if (pt_cmpR op_eq (pv 1) pe_int (nomark _)) (pss_cons (ps_setLc (i := 3) (own := [("_law_k", 2)]) (g := gName 2) (tt := tYes) (by rfl) nd rfl rfl (sw_true rfl rfl rfl (by decide +kernel)) (pi_range1 (by rfl) (T.no "range") (pa_cons (pe_df R.r.draw r3 (pa_cons (pv 0) (pa_cons pe_int pa_nil))) pa_nil))
        (blkOk_by (own := [("_law_k", 2)]) (N := ["_law_state", "_law_kind", "_law_k", "_law_changes", "_law_word", "_law_plots", "_law_j"]) (sc := defScope s_law_call) (by decide +kernel)) (fun _ _ _ _ _ => pg_name (i := 2) nd rfl (.inl rfl)) (fun _ _ _ _ _ => pts_nil) (fun _ _ _ _ _ => pe_df R.chg r9 (pa_cons (pv 0) pa_nil)))
      (pss_one (ps_ret (pe_tup (pa_cons pe_str (pa_cons (pe_df R.r.name r7 (pa_cons (pv 0) pa_nil)) (pa_cons (pe_df R.r.name r7 (pa_cons (pv 0) pa_nil)) (pa_cons (pv 3) (pa_cons (pe_df R.r.num r7 (pa_cons (pv 0) pa_nil)) pa_nil))))))))) pss_nil)
    (pss_cons (ps_if (pt_cmpR op_eq (pv 1) pe_int (nomark _)) (pss_one (ps_ret (pe_tup (pa_cons pe_str (pa_cons (pe_df R.msg (hr.mono (by decide)) (pa_cons (pv 0) pa_nil)) pa_nil))))) pss_nil)
    (pss_cons (ps_if (pt_cmpR op_eq (pv 1) pe_int (nomark _)) (pss_one (ps_ret (pe_tup (pa_cons pe_str (pa_cons (pe_df R.r.name r7 (pa_cons (pv 0) pa_nil)) (pa_cons (pe_df R.r.name r7 (pa_cons (pv 0) pa_nil)) (pa_cons (pe_df R.r.name r7 (pa_cons (pv 0) pa_nil)) pa_nil))))))) pss_nil)
    (pss_cons (ps_if (pt_cmpR op_eq (pv 1) pe_int (nomark _)) (pss_cons (ps_set (i := 4) nd rfl (.inl rfl) (pe_df R.r.pick r5 (pa_cons (pv 0) (pa_cons (pe_lst (pa_cons pe_str (pa_cons pe_str pa_nil))) pa_nil))))
      (pss_one (ps_ret (pe_tup (pa_cons pe_str (pa_cons (pe_df R.r.name r7 (pa_cons (pv 0) pa_nil)) (pa_cons (pe_tup (pa_cons (pv 4) (pa_cons (pe_df R.r.num r7 (pa_cons (pv 0) pa_nil)) (pa_cons (pe_df R.r.name r7 (pa_cons (pv 0) pa_nil)) (pa_cons (pe_df R.r.name r7 (pa_cons (pv 0) pa_nil)) pa_nil))))) pa_nil))))))) pss_nil)
    (pss_cons (ps_set (i := 5) nd rfl (.inl rfl) (pe_lst pa_nil))
    (pss_cons (ps_for PassesOwn.never rfl (pi_range1 (by rfl) (T.no "range") (pa_cons (pe_df R.r.draw r3 (pa_cons (pv 0) (pa_cons pe_int pa_nil))) pa_nil)) (pg_name (i := 2) nd rfl (.inl rfl))
      (pss_one (ps_expr (pe_bm PySem.F.plainAttrs_list PySem.F.slot_list_append PySem.F.type_list_append mt_append (pv 5) (pa_cons (pe_callTy call_tuple_of (by rfl) (T.no "tuple") (by decide +kernel) (pa_cons (pe_lc (own := [("_law_j", 6)]) (g := gName 6) (tt := tYes) (by rfl) nd (pi_range1 (by rfl) (T.no "range") (pa_cons pe_int pa_nil))
        (blkOk_by (own := [("_law_j", 6)]) (N := ["_law_state", "_law_kind", "_law_k", "_law_changes", "_law_word", "_law_plots", "_law_j"]) (sc := defScope s_law_call) (by decide +kernel)) (fun _ _ _ _ _ => pg_name (i := 6) nd rfl (.inl rfl)) (fun _ _ _ _ _ => pts_nil)
        (fun _ _ _ _ _ => pe_op op_mul (pe_df R.r.num r7 (pa_cons (pv 0) pa_nil)) (pe_df R.r.pick r5 (pa_cons (pv 0) (pa_cons (pe_lst (pa_cons pe_int (pa_cons (pe_un un_neg pe_int) pa_nil))) pa_nil))))) pa_nil)) pa_nil)))))
    (pss_one (ps_ret (pe_tup (pa_cons pe_str (pa_cons (pv 5) pa_nil))))))))))))), ?_⟩
  obtain ⟨d, c, rfl, h0, k⟩ := h
  have hM : ∀ l xs, H l = some (.lst xs) → ¬ l = d := fun l xs e => h0.lst e
  refine ldraw rfl h0 (by decide) (by decide) fun n H1 n0 n1 x1 s1 => ?_
  refine ⟨_, rfl, rfl, _, rfl, ite2 (fun _ => ?_) fun _ => ⟨_, rfl, rfl, _, rfl, ite2 (fun _ => ?_) fun _ => ⟨_, rfl, rfl, _, rfl, ite2 (fun _ => ?_) fun _ => ⟨_, rfl, rfl, _, rfl, ite2 (fun _ => ?_) fun _ => ⟨_, rfl, rfl, _, rfl, ite2 (fun _ => ?_) fun _ => ⟨_, rfl, rfl, _, rfl, ite2 (fun _ => ?_) fun _ => ?_⟩⟩⟩⟩⟩⟩
  -- enter
  · refine ldraw rfl s1 (by decide) (by decide) fun m H2 m0 m1 x2 s2 => ?_
    refine ⟨_, _, rfl, rfl, 1 + m, rfl, by omega, by omega, fun D nD => lc_range (lo := 0) (n := (1 + m).toNat) (fun i G => X1 d H2 G ∧ St0 G d c ∧ ∃ (cs : List Req) (vs : List V), cs.length = i ∧ (∀ y ∈ cs, OkReq y) ∧ G D = some (.lst vs) ∧ DpAll K G vs (cs.map Req.d)) ⟨Ext.new nD, s2.new nD, [], [], rfl, all_nil, upd_same, .nil⟩ (fun i G hi hP => ?_) (fun G hP => ?_)⟩
    · obtain ⟨x3, s3, cs, vs, lc, hcs, hG, hd⟩ := hP
      refine ⟨rfl, ?_⟩
      exact ld rfl s3 fun v H4 hv x4 s4 => by
        have q := item_more nl_req nD s2 x3 s3 (by omega) hcs hG hd hv x4 s4
        rw [lc] at q
        exact q
    · obtain ⟨x3, s3, cs, vs, lc, hcs, hG, hd⟩ := hP
      refine ⟨(by show 2 ≤ sizeLine; decide), fun u nu => ?_⟩
      have xx := (x1.trans x2).trans x3
      exact k (.enter cs) _ _ ⟨by omega, by omega, hcs⟩ (kp_call (pre := [.str "enter"]) (post := []) (dpre := [.str "enter"]) (dpost := []) hG hd (nl_map nl_req _) xx hM ((x1.trans x2).free D nD) nu (fun G => .cons (.str _) .nil) (fun G => .nil)) (xx.trans (Ext.new nu)) (s3.new nu)
  -- say
  · refine ld rfl s1 fun v2 H2 hv2 x2 s2 => ld rfl s2 fun v3 H3 hv3 x3 s3 => ld rfl s3 fun v4 H4 hv4 x4 s4 => ld rfl s4 fun v5 H5 hv5 x5 s5 => ⟨(by show 5 ≤ sizeLine; decide), fun u nu => ?_⟩
    obtain ⟨y1, rfl, o1⟩ := hv2
    obtain ⟨y2, rfl, o2⟩ := hv3
    obtain ⟨ch, oc, dc⟩ := hv4
    obtain ⟨m, rfl, om⟩ := hv5
    have dc5 := (x5.trans (Ext.new nu : X1 d _ (upd H5 u (.tup [.str "say", .str y1, .str y2, v4, .int m])))).dp s4.ns dc
    have xx := ((((x1.trans x2).trans x3).trans x4).trans x5).trans (Ext.new nu : X1 d _ (upd H5 u (.tup [.str "say", .str y1, .str y2, v4, .int m])))
    refine k (.say y1 y2 ch m) _ _ ⟨o1, o2, oc, om⟩ (kp_nl (dp_newT upd_same (.cons (.str _) (.cons (.str _) (.cons (.str _) (.cons dc5 (.cons (.int _) .nil)))))) ?_ xx hM) xx (s5.new nu)
    show (true && (true && (true && (nlB ch.d && _)))) = true
    rw [nl_chg]
    rfl
  -- solve
  · refine ldraw rfl s1 (by decide) (by decide) fun m H2 m0 m1 x2 s2 => ?_
    refine ⟨m, rfl, by omega, by omega, fun D nD => lc_range (lo := 0) (n := m.toNat) (fun i G => X1 d H2 G ∧ St0 G d c ∧ ∃ (cs : List Chg) (vs : List V), cs.length = i ∧ (∀ y ∈ cs, OkChg y) ∧ G D = some (.lst vs) ∧ DpAll K G vs (cs.map Chg.d)) ⟨Ext.new nD, s2.new nD, [], [], rfl, all_nil, upd_same, .nil⟩ (fun i G hi hP => ?_) (fun G hP => ?_)⟩
    · obtain ⟨x3, s3, cs, vs, lc, hcs, hG, hd⟩ := hP
      refine ⟨rfl, ?_⟩
      exact ld rfl s3 fun v H4 hv x4 s4 => by
        have q := item_more nl_chg nD s2 x3 s3 (by omega) hcs hG hd hv x4 s4
        rw [lc] at q
        exact q
    · obtain ⟨x3, s3, cs, vs, lc, hcs, hG, hd⟩ := hP
      refine ld rfl s3 fun v4 H4 hv4 x4 s4 => ld rfl s4 fun v5 H5 hv5 x5 s5 => ⟨_, rfl, ?_⟩
      refine ld rfl s5 fun v6 H6 hv6 x6 s6 => ⟨(by show 5 ≤ sizeLine; decide), fun u nu => ?_⟩
      obtain ⟨y1, rfl, o1⟩ := hv4
      obtain ⟨y2, rfl, o2⟩ := hv5
      obtain ⟨t, rfl, ot⟩ := hv6
      have x456 := (x4.trans x5).trans x6
      have hG6 := x456.seq s3.ns hG rfl
      have xx := ((x1.trans x2).trans x3).trans x456
      exact k (.solve y1 y2 cs t) _ _ ⟨o1, o2, by omega, hcs, ot⟩ (kp_call (pre := [.str "solve", .str y1, .str y2]) (post := [.int t]) (dpre := [.str "solve", .str y1, .str y2]) (dpost := [.int t]) hG6 (x456.dpAll s3.ns hd) (nl_map nl_chg _) xx hM ((x1.trans x2).free D nD) nu
        (fun G => .cons (.str _) (.cons (.str _) (.cons (.str _) .nil))) (fun G => .cons (.int _) .nil)) (xx.trans (Ext.new nu)) (s6.new nu)
  -- hear
  · refine ld rfl s1 fun v2 H2 hv2 x2 s2 => ⟨(by show 2 ≤ sizeLine; decide), fun u nu => ?_⟩
    obtain ⟨m, om, dm⟩ := hv2
    have xx := (x1.trans x2).trans (Ext.new nu : X1 d _ (upd H2 u (.tup [.str "hear", v2])))
    refine k (.hear m) _ _ om (kp_nl (dp_newT upd_same (.cons (.str _) (.cons ((Ext.new nu : X0 _ _).dp0 dm) .nil))) ?_ xx hM) xx (s2.new nu)
    show (true && (nlB m.d && true)) = true
    rw [nl_msg]
    rfl
  -- give
  · refine ld rfl s1 fun v2 H2 hv2 x2 s2 => ld rfl s2 fun v3 H3 hv3 x3 s3 => ld rfl s3 fun v4 H4 hv4 x4 s4 => ⟨(by show 4 ≤ sizeLine; decide), fun u nu => ?_⟩
    obtain ⟨y1, rfl, o1⟩ := hv2
    obtain ⟨y2, rfl, o2⟩ := hv3
    obtain ⟨y3, rfl, o3⟩ := hv4
    have xx := (((x1.trans x2).trans x3).trans x4).trans (Ext.new nu : X1 d _ (upd H4 u (.tup [.str "give", .str y1, .str y2, .str y3])))
    exact k (.give y1 y2 y3) _ _ ⟨o1, o2, o3⟩ (kp_nl (dp_newT upd_same (.cons (.str _) (.cons (.str _) (.cons (.str _) (.cons (.str _) .nil))))) rfl xx hM) xx (s4.new nu)
  -- pass_on
  · refine ⟨_, rfl, (by show 2 ≤ sizeLine; decide), fun l nl => ?_⟩
    refine ⟨d, c, l, _, rfl, s1.new nl, SqL.of upd_same, (by show 1 ≤ 2; decide), (by show 2 ≤ 1000; decide), fun v H2 hv x2 s2 => ?_⟩
    obtain ⟨kk, rfl⟩ : ∃ kk : Bool, v = .str (if kk then ("took" : Str) else "give") := by
      rcases List.mem_cons.mp hv with rfl | hv
      · exact ⟨false, rfl⟩
      · rw [List.mem_singleton.mp hv]
        exact ⟨true, rfl⟩
    refine ld rfl s2 fun v3 H3 hv3 x3 s3 => ⟨_, rfl, ?_⟩
    refine ld rfl s3 fun v4 H4 hv4 x4 s4 => ld rfl s4 fun v5 H5 hv5 x5 s5 => ld rfl s5 fun v6 H6 hv6 x6 s6 => ⟨(by show 4 ≤ sizeLine; decide), fun t nt => ⟨(by show 3 ≤ sizeLine; decide), fun u nu => ?_⟩⟩
    obtain ⟨y1, rfl, o1⟩ := hv3
    obtain ⟨m, rfl, om⟩ := hv4
    obtain ⟨y2, rfl, o2⟩ := hv5
    obtain ⟨y3, rfl, o3⟩ := hv6
    have xx := (((((((x1.trans (Ext.new nl)).trans x2).trans x3).trans x4).trans x5).trans x6).trans (Ext.new nt)).trans (Ext.new nu : X1 d _ (upd (upd H6 t (.tup [.str (if kk then ("took" : Str) else "give"), .int m, .str y2, .str y3])) u (.tup [.str "pass_on", .str y1, .ref t])))
    exact k (.pass y1 kk m y2 y3) _ _ ⟨o1, om, o2, o3⟩ (kp_nl (dp_newT upd_same (.cons (.str _) (.cons (.str _) (.cons ((Ext.new nu : X0 _ _).dp0 (dp_newT upd_same (.cons (.str _) (.cons (.int _) (.cons (.str _) (.cons (.str _) .nil)))))) .nil)))) rfl xx hM) xx ((s6.new nt).new nu)
  -- advance
  · refine ⟨(by show 0 ≤ sizeLine; decide), fun l nl => ?_⟩
    refine ldraw rfl (s1.new nl) (by decide) (by decide) fun m H2 m0 m1 x2 s2 => ?_
    have ap := s1.apart nl
    have x02 := x1.trans ((Ext.new nl : X1 d _ _).trans x2)
    have hl2 : H2 l = some (.lst []) := x2.seq (s1.new nl).ns upd_same rfl
    have ql : H l = none := x1.free l nl
    refine ⟨m, rfl, by omega, by omega, for_range (lo := 0) (n := m.toNat) (fun i σ G => ∃ (v2 : Option V) (cs : List (Int × Int × Int)) (vs : List V), σ = [some (.ref d), some (.int n), v2, none, none, some (.ref l), none] ∧ cs.length = i ∧ (∀ y ∈ cs, OkPlot y) ∧ X1 d H G ∧ St0 G d c ∧ G l = some (.lst vs) ∧ DpAll K G vs (cs.map plotD))
      ⟨none, [], [], rfl, rfl, all_nil, x02, s2, hl2, .nil⟩ ?_ ?_⟩
    · rintro i σ G hi ⟨v2, cs, vs, rfl, lc, hcs, xG, sG, hl, hd⟩
      have lv : vs.length = cs.length := by rw [dpa_len hd, List.length_map]
      refine ⟨_, rfl, .inl ⟨rfl, _, SqL.of hl⟩, ?_⟩
      refine ⟨3, rfl, by decide, by decide, fun D nD => lc_range (lo := 0) (n := 3) (fun j G2 => X1 d G G2 ∧ St0 G2 d c ∧ ∃ ns : List Int, ns.length = j ∧ (∀ y ∈ ns, OkInt y) ∧ G2 D = some (.lst (ns.map V.int))) ⟨Ext.new nD, sG.new nD, [], rfl, all_nil, upd_same⟩ (fun j G2 hj hP => ?_) (fun G2 hP => ?_)⟩
      · obtain ⟨x3, s3, ns, ln, hns, hG2⟩ := hP
        refine ⟨rfl, ?_⟩
        refine ld rfl s3 fun v4 H4 hv4 x4 s4 => ?_
        obtain ⟨y, rfl, oy⟩ := hv4
        refine ⟨_, rfl, _, rfl, (by show 2 ≤ sizeLine; decide), fun l5 nl5 => ?_⟩
        refine ⟨d, c, l5, _, rfl, s4.new nl5, SqL.of upd_same, (by show 1 ≤ 2; decide), (by show 2 ≤ 1000; decide), fun v6 H6 hv6 x6 s6 => ?_⟩
        obtain ⟨sg, rfl, hsg⟩ : ∃ sg : Int, v6 = .int sg ∧ (sg = 1 ∨ sg = -1) := by
          rcases List.mem_cons.mp hv6 with rfl | hv6
          · exact ⟨1, rfl, .inl rfl⟩
          · rw [List.mem_singleton.mp hv6]
            exact ⟨-1, rfl, .inr rfl⟩
        have x36 := (x3.trans x4).trans ((Ext.new nl5 : X1 d _ _).trans x6)
        have hG6 : H6 D = some (.lst (ns.map V.int)) := (x4.trans ((Ext.new nl5 : X1 d _ _).trans x6)).seq s3.ns hG2 rfl
        refine ⟨_, _, rfl, rfl, .inl ⟨by have := oy.1; omega, by have := oy.2; omega⟩, _, hG6, small1000 (by rw [List.length_map]; omega), Ext.ownL x36 nD hG6, s6.own (sG.apart nD), ns ++ [y * sg], by rw [List.length_append, ln] <;> rfl, all_app hns (all_cons (mul_pm oy hsg) all_nil), ?_⟩
        rw [upd_same, List.map_append]
        rfl
      · obtain ⟨x3, s3, ns, ln, hns, hG2⟩ := hP
        obtain ⟨a1, a2, a3, rfl⟩ : ∃ a1 a2 a3, ns = [a1, a2, a3] := match ns, ln with
          | [a1, a2, a3], _ => ⟨a1, a2, a3, rfl⟩
        have hlG : G2 l = some (.lst vs) := x3.seq sG.ns hl rfl
        refine ⟨D, _, rfl, .inl ⟨SqL.of hG2, fun t nt => ?_⟩⟩
        have lt := ne_of_none hlG nt
        have hl6 : (upd G2 t (.tup ([a1, a2, a3].map V.int))) l = some (.lst vs) := by
          rw [upd_ne lt]
          exact hlG
        have xt : X1 d G2 (upd G2 t (.tup ([a1, a2, a3].map V.int))) := Ext.new nt
        refine ⟨l, _, _, rfl, rfl, hl6, small1000 (by omega), _, cs ++ [(a1, a2, a3)], vs ++ [.ref t], rfl, by rw [List.length_append, lc] <;> rfl, all_app hcs (all_cons ⟨hns _ (by simp), hns _ (by simp), hns _ (by simp)⟩ all_nil), Ext.ownL ((xG.trans x3).trans xt) ql hl6, (s3.new nt).own ap, upd_same, ?_⟩
        rw [List.map_append]
        refine (lst_ext hl6).dpsF (lst_tup hl6) (by rw [← List.map_append]; exact nl_map nl_plot _) (dpa_app ((x3.trans xt).dpAll sG.ns hd) (.cons ?_ .nil))
        exact dp_newT upd_same (ints_dpa [a1, a2, a3])
    · rintro σ G ⟨v2, cs, vs, rfl, lc, hcs, xG, sG, hl, hd⟩
      refine ⟨_, rfl, (by show 2 ≤ sizeLine; decide), fun u nu => ?_⟩
      exact k (.adv cs) _ _ ⟨by omega, hcs⟩ (kp_call (pre := [.str "advance"]) (post := []) (dpre := [.str "advance"]) (dpost := []) hl hd (nl_map nl_plot _) xG hM ql nu (fun G => .cons (.str _) .nil) (fun G => .nil)) (xG.trans (Ext.new nu)) (sG.new nu)
end
end K31
/-! K31, the law's defs 5: words of changes, clearances, messages, requests; parts joined; sums. -/
namespace K31
open PySem PySem.Spec PyProof.Rows L2 GxR
open PySem.W (Frag)
open TL (tl)
/-- a def that makes a new list of words of a datum -/
def spWs (K : Frag) {α : Type} (dd : α → PyData) (ws : α → List Str) (ok : α → Prop) : Sp := fun vs H Q _ => ∃ v c, vs = [v] ∧ Dp K H v (dd c) ∧ ok c ∧ ∀ l H', H l = none → H' l = some (.lst ((ws c).map V.str)) → X0 H H' → Q (.ref l) H'
abbrev spChgW (K : Frag) : Sp := spWs K Chg.d Chg.ws OkChg
abbrev spClrW (K : Frag) : Sp := spWs K Clr.d Clr.ws OkClr
abbrev spMsgW (K : Frag) : Sp := spWs K Msg.d Msg.ws OkMsg
abbrev spReqW (K : Frag) : Sp := spWs K Req.d Req.ws OkReq
theorem up_level : Txt.upper "level" = "LEVEL" := by decide +kernel
theorem up_speed : Txt.upper "speed" = "SPEED" := by decide +kernel
theorem lk_lo (k : LK) : Txt.upper k.lo = k.up := by cases k <;> decide +kernel
theorem sk_lo (k : SK) : Txt.upper k.lo = k.up := by cases k <;> decide +kernel
theorem lk_los (k : LK) : k.lo.length ≤ 1000 := by cases k <;> decide +kernel
theorem sk_los (k : SK) : k.lo.length ≤ 1000 := by cases k <;> decide +kernel
/-- lists of words at the values vs, none of them at D -/
def Pts (D : Addr) (H : Hp) : List V → List (List Str) → Prop
  | [], [] => True
  | v :: vs, ws :: r => (∃ p, v = .ref p ∧ p ≠ D ∧ H p = some (.lst (ws.map V.str))) ∧ Pts D H vs r
  | _, _ => False
theorem Pts.x0 {D : Addr} {H H' : Hp} (x : X0 H H') : ∀ {vs : List V} {wss : List (List Str)}, Pts D H vs wss → Pts D H' vs wss
  | [], [], _ => trivial
  | v :: vs, ws :: r, h => by
    obtain ⟨⟨p, e, n, q⟩, h2⟩ := h
    exact ⟨⟨p, e, n, x.keep p _ q id fun _ z => by cases z⟩, Pts.x0 x h2⟩
  | [], _ :: _, h => h.elim
  | _ :: _, [], h => h.elim
theorem Pts.upd {D : Addr} {H : Hp} {o : HO} : ∀ {vs : List V} {wss : List (List Str)}, Pts D H vs wss → Pts D (upd H D o) vs wss
  | [], [], _ => trivial
  | v :: vs, ws :: r, h => by
    obtain ⟨⟨p, e, n, q⟩, h2⟩ := h
    exact ⟨⟨p, e, n, by rw [upd_ne n]; exact q⟩, Pts.upd h2⟩
  | [], _ :: _, h => h.elim
  | _ :: _, [], h => h.elim
theorem Pts.snoc {D p : Addr} {H : Hp} {ws : List Str} (n : p ≠ D) (q : H p = some (.lst (ws.map V.str))) : ∀ {vs : List V} {wss : List (List Str)}, Pts D H vs wss → Pts D H (vs ++ [.ref p]) (wss ++ [ws])
  | [], [], _ => ⟨⟨p, rfl, n, q⟩, trivial⟩
  | v :: vs, u :: r, h => ⟨h.1, Pts.snoc n q h.2⟩
  | [], _ :: _, h => h.elim
  | _ :: _, [], h => h.elim
theorem Pts.len {D : Addr} {H : Hp} : ∀ {vs : List V} {wss : List (List Str)}, Pts D H vs wss → vs.length = wss.length
  | [], [], _ => rfl
  | v :: vs, u :: r, h => by rw [List.length_cons, List.length_cons, Pts.len h.2]
  | [], _ :: _, h => h.elim
  | _ :: _, [], h => h.elim
theorem Pts.get {D : Addr} {H : Hp} : ∀ {vs : List V} {wss : List (List Str)} {i : Nat} {v : V}, Pts D H vs wss → vs[i]? = some v → ∃ p ws, v = .ref p ∧ wss[i]? = some ws ∧ H p = some (.lst (ws.map V.str))
  | [], [], _, _, _, e => by simp at e
  | v :: vs, u :: r, 0, _, h, e => by
    obtain ⟨⟨p, e1, _, q⟩, _⟩ := h
    have := Option.some.inj e
    subst this
    exact ⟨p, u, e1, rfl, q⟩
  | v :: vs, u :: r, i + 1, _, h, e => Pts.get (vs := vs) (wss := r) (i := i) h.2 (by simpa using e)
  | [], _ :: _, _, _, h, _ => h.elim
  | _ :: _, [], _, _, h, _ => h.elim
def spJoin : Sp := fun vs H Q _ => ∃ (p D : Addr) (ps : List V) (wss : List (List Str)), vs = [.ref p] ∧ H p = some (.lst ps) ∧ Pts D H ps wss ∧ wss.length ≤ 10 ∧ (∀ ws ∈ wss, ws.length ≤ 50) ∧ ∀ l H', H l = none → H' l = some (.lst ((slash wss).map V.str)) → X0 H H' → Q (.ref l) H'
/-- the parts up to the i-th, as the law joins them -/
theorem slash_snoc {ws : List Str} : ∀ {l : List (List Str)}, l ≠ [] → slash (l ++ [ws]) = slash l ++ (("/" : Str) :: ws)
  | [], h => absurd rfl h
  | p :: r, _ => by
    have e : ∀ r : List (List Str), slT (r ++ [ws]) = slT r ++ (("/" : Str) :: ws) := fun r => by
      induction r with
      | nil =>
        show ("/" : Str) :: (ws ++ []) = ("/" : Str) :: ws
        rw [List.append_nil]
      | cons q r ih =>
        show ("/" : Str) :: (q ++ slT (r ++ [ws])) = ("/" : Str) :: (q ++ slT r) ++ _
        rw [ih, ← List.append_assoc]
        rfl
    rw [List.cons_append, slash_cons, slash_cons, e, List.append_assoc]
section
variable {a : Ad} {w : World} {K : Frag} {mg : Str → Option Value} {base : Heap}
theorem ok_chgw (T : TT a K mg base) (D : Df K mg "_law_change_words" s_law_change_words) : Dn Pg w K mg base CX0 3 "_law_change_words" ["_law_change_here"] (spChgW K) := by
  refine D.dn (fun _ _ _ _ _ _ us hl => match us, hl with | [_], _ => rfl) fun f fd F => ?_
  refine F.ok (k := 2) sc_law_change_words ?_ fun cdv A outer s H vs Q E hr h => ?_
  · rintro vs H Q E ⟨v, c, rfl, _⟩
    rfl
  refine ⟨_, pss_cons (ps_if (pt_cmpR op_eq (pe_ix ix_tup (pv 0) pe_int (fun _ _ => rfl)) pe_str (nomark _)) (pss_one (ps_ret (pe_op op_cat (pe_lst (pa_cons pe_str pa_nil)) (pe_callTy call_list_of (by rfl) (T.no "list") (by decide +kernel) (pa_cons (pe_ix ix_tup (pv 0) pe_int (fun _ _ => rfl)) pa_nil))))) pss_nil)
    (pss_one (ps_ret (pe_lst (pa_cons (pe_upper (pe_ix ix_tup (pv 0) pe_int (fun _ _ => rfl))) (pa_cons (pe_callTy call_str_int (by rfl) (T.no "str") (by decide +kernel) (pa_cons (pe_ix ix_tup (pv 0) pe_int (fun _ _ => rfl)) pa_nil)) pa_nil))))), ?_⟩
  obtain ⟨v, c, rfl, hd, hc, k⟩ := h
  cases c with
  | lvl n =>
    obtain ⟨p, rfl, hq⟩ := chg_num hd
    refine ⟨_, rfl, p, _, _, _, rfl, rfl, hq, atI_nat (j := 0) rfl, rfl, _, rfl, if_f (by decide +kernel) ?_⟩
    refine ⟨_, rfl, p, _, _, _, rfl, rfl, hq, atI_nat (j := 0) rfl, ⟨_, rfl⟩, _, rfl, rfl, (by decide +kernel), _, rfl, p, _, _, _, rfl, rfl, hq, atI_nat (j := 1) rfl, n, rfl, num_log2 hc, (by show 2 ≤ sizeLine; decide), fun l nl => ?_⟩
    exact k l _ nl (by rw [upd_same, up_level]; rfl) (Ext.new nl)
  | spd n =>
    obtain ⟨p, rfl, hq⟩ := chg_num hd
    refine ⟨_, rfl, p, _, _, _, rfl, rfl, hq, atI_nat (j := 0) rfl, rfl, _, rfl, if_f (by decide +kernel) ?_⟩
    refine ⟨_, rfl, p, _, _, _, rfl, rfl, hq, atI_nat (j := 0) rfl, ⟨_, rfl⟩, _, rfl, rfl, (by decide +kernel), _, rfl, p, _, _, _, rfl, rfl, hq, atI_nat (j := 1) rfl, n, rfl, num_log2 hc, (by show 2 ≤ sizeLine; decide), fun l nl => ?_⟩
    exact k l _ nl (by rw [upd_same, up_speed]; rfl) (Ext.new nl)
  | rt ns =>
    obtain ⟨p, q, rfl, hq, hq2⟩ := chg_rt hd
    obtain ⟨h1, h2, h3⟩ := hc
    refine ⟨_, rfl, p, _, _, _, rfl, rfl, hq, atI_nat (j := 0) rfl, rfl, _, rfl, if_t (by decide +kernel) ?_⟩
    refine ⟨(by show 1 ≤ sizeLine; decide), fun l nl => ?_⟩
    have xl : X0 H (upd H l (.lst [.str "ROUTE"])) := Ext.new nl
    refine ⟨_, rfl, p, _, _, _, rfl, rfl, xl.sqT ns0 hq, atI_nat (j := 1) rfl, q, _, rfl, .inr (xl.sqT ns0 hq2), fun m nm => ?_⟩
    have lm := ne_of_none (upd_same (H := H) (a := l) (o := .lst [.str "ROUTE"])) nm
    refine ⟨l, m, _, _, rfl, rfl, by rw [upd_ne lm]; exact upd_same, upd_same, szl (by rw [List.length_map]; show 1 + ns.length ≤ _; omega), fun u nu => ?_⟩
    exact k u _ (xl.free u (Ext.free (Ext.new nm : X0 _ _) u nu)) upd_same ((xl.trans (Ext.new nm)).trans (Ext.new nu))
theorem ok_clrw (T : TT a K mg base) (DC : Df K mg "_law_change_words" s_law_change_words) (D : Df K mg "_law_clearance_words" s_law_clearance_words) : Dn Pg w K mg base CX0 5 "_law_clearance_words" ["_law_clearance_here"] (spClrW K) := by
  refine D.dn (fun _ _ _ _ _ _ us hl => match us, hl with | [_], _ => rfl) fun f fd F => ?_
  refine F.ok (k := 4) sc_law_clearance_words ?_ fun cdv A outer s H vs Q E hr h => ?_
  · rintro vs H Q E ⟨v, c, rfl, _⟩
    rfl
  have C := ok_chgw (w := w) T DC
  refine ⟨_, pss_one (ps_ret (pe_op op_cat (pe_lst (pa_cons (pe_ix ix_tup (pv 0) pe_int (fun _ _ => rfl)) (pa_cons (pe_callTy call_str_int (by rfl) (T.no "str") (by decide +kernel) (pa_cons (pe_ix ix_tup (pv 0) pe_int (fun _ _ => rfl)) pa_nil)) (pa_cons pe_str (pa_cons (pe_callTy call_str_int (by rfl) (T.no "str") (by decide +kernel) (pa_cons (pe_ix ix_tup (pv 0) pe_int (fun _ _ => rfl)) pa_nil)) pa_nil)))))
      (pe_df C (hr.mono (by decide)) (pa_cons (pe_ix ix_tup (pv 0) pe_int (fun _ _ => rfl)) pa_nil)))), ?_⟩
  obtain ⟨v, c, rfl, hd, hc, k⟩ := h
  obtain ⟨p, u, rfl, hq, hu⟩ := clr_parts hd
  have cl := chg_clean hc.ch
  refine ⟨_, rfl, p, _, _, _, rfl, rfl, hq, atI_nat (j := 0) rfl, _, rfl, p, _, _, _, rfl, rfl, hq, atI_nat (j := 1) rfl, c.num, rfl, num_log2 hc.num, _, rfl, p, _, _, _, rfl, rfl, hq, atI_nat (j := 2) rfl, c.tk, rfl, num_log2 hc.tk, (by show 4 ≤ sizeLine; decide), fun l nl => ?_⟩
  have xl : X0 H (upd H l (.lst [.str c.fl, .str (sI c.num), .str "AT", .str (sI c.tk)])) := Ext.new nl
  refine ⟨_, rfl, p, _, _, _, rfl, rfl, xl.sqT ns0 hq, atI_nat (j := 3) rfl, u, c.ch, rfl, xl.dp0 hu, hc.ch, fun m H1 nm hm x1 => ?_⟩
  have hl : H1 l = some (.lst [.str c.fl, .str (sI c.num), .str "AT", .str (sI c.tk)]) := x1.keep l _ upd_same id fun _ z => by cases z
  refine ⟨l, m, _, _, rfl, rfl, hl, hm, szl (by rw [List.length_map]; show 4 + c.ch.ws.length ≤ _; omega), fun t nt => ?_⟩
  exact k t _ (xl.free t (x1.free t nt)) upd_same ((xl.trans x1).trans (Ext.new nt))
theorem ok_msgw (T : TT a K mg base) (DC : Df K mg "_law_change_words" s_law_change_words) (DL : Df K mg "_law_clearance_words" s_law_clearance_words) (D : Df K mg "_law_message_words" s_law_message_words) : Dn Pg w K mg base CX0 7 "_law_message_words" ["_law_message_here"] (spMsgW K) := by
  refine D.dn (fun _ _ _ _ _ _ us hl => match us, hl with | [_], _ => rfl) fun f fd F => ?_
  refine F.ok (k := 6) sc_law_message_words ?_ fun cdv A outer s H vs Q E hr h => ?_
  · rintro vs H Q E ⟨v, c, rfl, _⟩
    rfl
  have C := ok_clrw (w := w) T DC DL
  refine ⟨_, pss_cons (ps_if (pt_cmpR op_eq (pe_callB call_len_seq (by rfl) (T.no "len") PySem.boot_len (pa_cons (pv 0) pa_nil)) pe_int (nomark _)) (pss_one (ps_ret (pe_op op_cat (pe_lst (pa_cons (pe_upper (pe_ix ix_tup (pv 0) pe_int (fun _ _ => rfl))) pa_nil)) (pe_df C (hr.mono (by decide)) (pa_cons (pe_ix ix_tup (pv 0) pe_int (fun _ _ => rfl)) pa_nil))))) pss_nil)
    (pss_one (ps_ret (pe_lst (pa_cons (pe_upper (pe_ix ix_tup (pv 0) pe_int (fun _ _ => rfl))) (pa_cons (pe_ix ix_tup (pv 0) pe_int (fun _ _ => rfl)) (pa_cons (pe_callTy call_str_int (by rfl) (T.no "str") (by decide +kernel) (pa_cons (pe_ix ix_tup (pv 0) pe_int (fun _ _ => rfl)) pa_nil)) pa_nil)))))), ?_⟩
  obtain ⟨v, m, rfl, hd, hm, k⟩ := h
  cases m with
  | long kk c =>
    obtain ⟨p, xs, rfl, h1, h2⟩ := dp_tup hd
    obtain ⟨v1, r1, rfl, e1, h2⟩ := dpa_cons h2
    obtain ⟨v2, r2, rfl, e2, h2⟩ := dpa_cons h2
    obtain rfl := dpa_nil h2
    obtain rfl := dp_str e1
    have cl := clr_clean hm
    refine ⟨_, rfl, p, _, rfl, .inr h1, rfl, _, rfl, if_t rfl ?_⟩
    refine ⟨_, rfl, p, _, _, _, rfl, rfl, h1, atI_nat (j := 0) rfl, ⟨_, rfl⟩, _, rfl, rfl, Nat.le_trans (lk_los kk) (by decide), (by show 1 ≤ sizeLine; decide), fun l nl => ?_⟩
    rw [lk_lo]
    have xl : X0 H (upd H l (.lst [.str kk.up])) := Ext.new nl
    refine ⟨_, rfl, p, _, _, _, rfl, rfl, xl.sqT ns0 h1, atI_nat (j := 1) rfl, v2, c, rfl, xl.dp0 e2, hm, fun q H1 nq hq x1 => ?_⟩
    have hl : H1 l = some (.lst [.str kk.up]) := x1.keep l _ upd_same id fun _ z => by cases z
    refine ⟨l, q, _, _, rfl, rfl, hl, hq, szl (by rw [List.length_map]; show 1 + c.ws.length ≤ _; omega), fun t nt => ?_⟩
    exact k t _ (xl.free t (x1.free t nt)) upd_same ((xl.trans x1).trans (Ext.new nt))
  | short kk f n =>
    obtain ⟨p, xs, rfl, h1, h2⟩ := dp_tup hd
    obtain ⟨v1, r1, rfl, e1, h2⟩ := dpa_cons h2
    obtain ⟨v2, r2, rfl, e2, h2⟩ := dpa_cons h2
    obtain ⟨v3, r3, rfl, e3, h2⟩ := dpa_cons h2
    obtain rfl := dpa_nil h2
    obtain rfl := dp_str e1
    obtain rfl := dp_str e2
    obtain rfl := dp_int e3
    refine ⟨_, rfl, p, _, rfl, .inr h1, rfl, _, rfl, if_f rfl ?_⟩
    refine ⟨_, rfl, p, _, _, _, rfl, rfl, h1, atI_nat (j := 0) rfl, ⟨_, rfl⟩, _, rfl, rfl, Nat.le_trans (sk_los kk) (by decide), ?_⟩
    refine ⟨_, rfl, p, _, _, _, rfl, rfl, h1, atI_nat (j := 1) rfl, _, rfl, p, _, _, _, rfl, rfl, h1, atI_nat (j := 2) rfl, n, rfl, num_log2 hm.2, (by show 3 ≤ sizeLine; decide), fun l nl => ?_⟩
    exact k l _ nl (by rw [upd_same, sk_lo]; rfl) (Ext.new nl)
theorem ok_joined (T : TT a K mg base) (D : Df K mg "_law_joined" s_law_joined) : Dn Pg w K mg base CX0 3 "_law_joined" ["_law_parts"] spJoin := by
  refine D.dn (fun _ _ _ _ _ _ us hl => match us, hl with | [_], _ => rfl) fun f fd F => ?_
  refine F.ok (k := 2) sc_law_joined ?_ fun cdv A outer s H vs Q E hr h => ?_
  · rintro vs H Q E ⟨p, D, ps, wss, rfl, _⟩
    rfl
  have nd := sc_law_joined.nd
  refine ⟨_, pss_cons (ps_set (i := 1) nd rfl (.inl rfl) (pe_lst pa_nil))
    (pss_cons (ps_for PassesOwn.never rfl (pi_range1 (by rfl) (T.no "range") (pa_cons (pe_callB call_len_seq (by rfl) (T.no "len") PySem.boot_len (pa_cons (pv 0) pa_nil)) pa_nil)) (pg_name (i := 2) nd rfl (.inl rfl))
      (pss_cons (ps_if (pt_cmpR op_gt (pv 2) pe_int (nomark _)) (pss_one (ps_expr (pe_bm PySem.F.plainAttrs_list PySem.F.slot_list_append PySem.F.type_list_append mt_append (pv 1) (pa_cons pe_str pa_nil)))) pss_nil)
      (pss_one (ps_expr (pe_bm PySem.F.plainAttrs_list PySem.F.slot_list_extend PySem.F.type_list_extend mt_extend (pv 1) (pa_cons (pe_ix ix_list (pv 0) (pv 2) (fun _ _ => rfl)) pa_nil))))))
    (pss_one (ps_ret (pv 1)))), ?_⟩
  obtain ⟨p, D, ps, wss, rfl, hp, hP, h1, h2, k⟩ := h
  have lp := hP.len
  refine ⟨(by show 0 ≤ sizeLine; decide), fun l nl => ?_⟩
  have xl : X0 H (upd H l (.lst [])) := Ext.new nl
  refine ⟨_, rfl, p, _, rfl, .inl (xl.sqL ns0 (SqL.of hp)), (ps.length : Int), rfl, by omega, by omega, ?_⟩
  have sl : ∀ i, (slash (wss.take i)).length ≤ 510 := fun i => by
    have q := slash_len (k := 50) (l := wss.take i) fun x hx => h2 x (List.mem_of_mem_take hx)
    have q2 : (wss.take i).length ≤ 10 := by
      rw [List.length_take]
      omega
    omega
  refine for_range (lo := 0) (n := ((ps.length : Int)).toNat) (fun i σ G => ∃ v2 : Option V, σ = [some (.ref p), some (.ref l), v2] ∧ X0 H G ∧ G l = some (.lst ((slash (wss.take i)).map V.str))) ⟨none, rfl, xl, upd_same⟩ ?_ ?_
  · rintro i σ G hi ⟨v2, rfl, xG, hl⟩
    have hi' : i < ps.length := by omega
    have hps : ps[i]? = some ps[i] := List.getElem?_eq_getElem hi'
    obtain ⟨q, ws, eq, hw, hq⟩ := hP.get hps
    have hq' := xG.keep q _ hq id fun _ z => by cases z
    have hp' := xG.keep p _ hp id fun _ z => by cases z
    have qwl : ws.length ≤ 50 := h2 ws (List.mem_of_getElem? hw)
    have hql : q ≠ l := ne_of_none hq nl
    have hpl : p ≠ l := ne_of_none hp nl
    have s0 := sl i
    have et : wss.take (i + 1) = wss.take i ++ [ws] := take_succ hw
    refine ⟨_, rfl, _, _, rfl, rfl, _, rfl, ?_⟩
    cases i with
    | zero =>
      refine if_f rfl ?_
      refine ⟨_, rfl, .inl ⟨rfl, _, SqL.of hl⟩, _, rfl, _, rfl, p, _, _, _, rfl, rfl, SqL.of hp', atI_nat (j := 0) hps, ?_⟩
      rw [eq]
      refine ⟨l, q, _, _, rfl, rfl, hl, hq', szl (by rw [List.length_map, List.length_map]; omega), _, rfl, Ext.ownL xG nl hl, ?_⟩
      rw [upd_same, et, List.take_zero, ← List.map_append]
      rfl
    | succ j =>
      refine if_t (decide_eq_true (by show (0 : Int) < 0 + ((j + 1 : Nat) : Int); omega)) ?_
      refine ⟨_, rfl, .inl ⟨rfl, _, SqL.of hl⟩, l, _, _, rfl, rfl, hl, small1000 (by rw [List.length_map]; omega), ?_⟩
      have hq2 : (upd G l (.lst ((slash (wss.take (j + 1))).map V.str ++ [.str "/"]))) q = some (.lst (ws.map V.str)) := by
        rw [upd_ne hql]
        exact hq'
      have hp2 : (upd G l (.lst ((slash (wss.take (j + 1))).map V.str ++ [.str "/"]))) p = some (.lst ps) := by
        rw [upd_ne hpl]
        exact hp'
      refine ⟨_, rfl, .inl ⟨rfl, _, SqL.of upd_same⟩, _, rfl, _, rfl, p, ps, _, ps[j + 1], rfl, rfl, SqL.of hp2, ?_, ?_⟩
      · show atI ps (0 + ((j + 1 : Nat) : Int)) = some ps[j + 1]
        rw [Int.zero_add]
        exact atI_nat hps
      rw [eq]
      refine ⟨l, q, _, _, rfl, rfl, upd_same, hq2, szl (by rw [List.length_append, List.length_map, List.length_map]; show _ + 1 + _ ≤ _; omega), _, rfl, ?_, ?_⟩
      · rw [upd_upd]
        exact Ext.ownL xG nl hl
      · have ne : wss.take (j + 1) ≠ [] := fun z => by
          have := congrArg List.length z
          rw [List.length_take, List.length_nil] at this
          omega
        rw [upd_same, et, slash_snoc ne, List.map_append, List.append_assoc]
        rfl
  · rintro σ G ⟨v2, rfl, xG, hl⟩
    have ep : ((ps.length : Int)).toNat = wss.length := by omega
    rw [ep, List.take_length] at hl
    exact ⟨_, rfl, k l G nl hl xG⟩
end
end K31
/-! K31, the law's defs 6: words of a request, of a call. -/
namespace K31
open PySem PySem.Spec PyProof.Rows L2 GxR
open PySem.W (Frag)
open TL (tl)
theorem upd_fr {H : Hp} {b t : Addr} {o : HO} (h : upd H t o b = none) : H b = none := by
  by_cases z : b = t
  · rw [z, upd_same] at h
    cases h
  · rw [upd_ne z] at h
    exact h
section
variable {a : Ad} {w : World} {K : Frag} {mg : Str → Option Value} {base : Heap}
theorem ok_reqw (T : TT a K mg base) (D : Df K mg "_law_request_words" s_law_request_words) : Dn Pg w K mg base CX0 3 "_law_request_words" ["_law_request"] (spReqW K) := by
  refine D.dn (fun _ _ _ _ _ _ us hl => match us, hl with | [_], _ => rfl) fun f fd F => ?_
  refine F.ok (k := 2) sc_law_request_words ?_ fun cdv A outer s H vs Q E hr h => ?_
  · rintro vs H Q E ⟨v, c, rfl, _⟩
    rfl
  have nd := sc_law_request_words.nd
  refine ⟨_, pss_cons (ps_set (i := 1) nd rfl (.inl rfl) (pe_op op_cat (pe_lst (pa_cons pe_str (pa_cons (pe_ix ix_tup (pv 0) pe_int (fun _ _ => rfl)) (pa_cons pe_str pa_nil))))
        (pe_lc (own := [("_law_number_here", 2)]) (g := gName 2) (tt := tYes) (by rfl) nd (pi_tup (pe_ix ix_tup (pv 0) pe_int (fun _ _ => rfl))) (blkOk_by (own := [("_law_number_here", 2)]) (N := ["_law_request", "_law_words", "_law_number_here"]) (sc := defScope s_law_request_words) (by decide +kernel))
          (fun _ _ _ _ _ => pg_name (i := 2) nd rfl (.inl rfl)) (fun _ _ _ _ _ => pts_nil) (fun _ _ _ _ _ => pe_callTy call_str_int (by rfl) (T.no "str") (by decide +kernel) (pa_cons (pv 2) pa_nil)))))
    (pss_cons (ps_set (i := 1) nd rfl (.inl rfl) (pe_op op_cat (pv 1) (pe_lst (pa_cons pe_str (pa_cons (pe_ix ix_tup (pv 0) pe_int (fun _ _ => rfl)) (pa_cons pe_str (pa_cons (pe_ix ix_tup (pv 0) pe_int (fun _ _ => rfl)) (pa_cons pe_str (pa_cons (pe_callTy call_str_int (by rfl) (T.no "str") (by decide +kernel) (pa_cons (pe_ix ix_tup (pv 0) pe_int (fun _ _ => rfl)) pa_nil))
        (pa_cons pe_str (pa_cons (pe_callTy call_str_int (by rfl) (T.no "str") (by decide +kernel) (pa_cons (pe_ix ix_tup (pv 0) pe_int (fun _ _ => rfl)) pa_nil)) pa_nil)))))))))))
    (pss_one (ps_ret (pe_op op_cat (pv 1) (pe_lst (pa_cons pe_str (pa_cons (pe_callTy call_str_int (by rfl) (T.no "str") (by decide +kernel) (pa_cons (pe_ix ix_tup (pv 0) pe_int (fun _ _ => rfl)) pa_nil)) (pa_cons pe_str (pa_cons (pe_callTy call_str_int (by rfl) (T.no "str") (by decide +kernel) (pa_cons (pe_ix ix_tup (pv 0) pe_int (fun _ _ => rfl)) pa_nil)) pa_nil))))))))), ?_⟩
  obtain ⟨v, r, rfl, hd, hc, k⟩ := h
  obtain ⟨p, b, rfl, hq, hb⟩ := req_parts hd
  refine ⟨_, rfl, p, _, _, _, rfl, rfl, hq, atI_nat (j := 0) rfl, (by show 3 ≤ sizeLine; decide), fun l nl => ?_⟩
  have xl : X0 H (upd H l (.lst [.str "FLIGHT", .str r.fl, .str "KIND"])) := Ext.new nl
  refine ⟨_, rfl, p, _, _, _, rfl, rfl, xl.sqT ns0 hq, atI_nat (j := 1) rfl, b, rfl, ⟨_, xl.sqT ns0 hb⟩, fun D nD => lc_tup (K := K) (a := b) (xs := r.kd.map V.int) (fun i G => X0 (upd H l (.lst [.str "FLIGHT", .str r.fl, .str "KIND"])) G ∧ G D = some (.lst ((r.kd.take i).map fun n => V.str (sI n)))) ⟨Ext.new nD, upd_same⟩ (fun i G _ hP => hP.1.sqT ns0 (xl.sqT ns0 hb)) (fun i x G hi hP => ?_) (fun G hP => ?_)⟩
  · obtain ⟨x1, hl⟩ := hP
    rw [List.getElem?_map] at hi
    obtain ⟨n, hn, rfl⟩ := Option.map_eq_some_iff.mp hi
    have on : OkNum n := hc.kd n (List.mem_of_getElem? hn)
    refine ⟨rfl, ?_⟩
    refine ⟨_, rfl, n, rfl, num_log2 on, _, hl, small1000 (by rw [List.length_map, List.length_take, hc.kn]; omega), Ext.ownL x1 nD hl, ?_⟩
    rw [upd_same, take_succ hn, List.map_append]
    rfl
  · obtain ⟨x1, hD⟩ := hP
    rw [List.length_map, List.take_length] at hD
    have hl : G l = some (.lst [.str "FLIGHT", .str r.fl, .str "KIND"]) := x1.keep l _ upd_same id fun _ z => by cases z
    refine ⟨l, D, _, _, rfl, rfl, hl, hD, szl (by rw [List.length_map, hc.kn]; show 3 + 5 ≤ 1000000; decide), fun q nq => ?_⟩
    have x2 := (xl.trans x1).trans (Ext.new nq : X0 _ (upd G q (.lst ([.str "FLIGHT", .str r.fl, .str "KIND"] ++ r.kd.map fun n => V.str (sI n)))))
    have hq2 := x2.sqT ns0 hq
    refine ⟨_, rfl, _, rfl, p, _, _, _, rfl, rfl, hq2, atI_nat (j := 2) rfl, _, rfl, p, _, _, _, rfl, rfl, hq2, atI_nat (j := 3) rfl, _, rfl, p, _, _, _, rfl, rfl, hq2, atI_nat (j := 4) rfl, r.lv, rfl, num_log2 hc.lv, _, rfl, p, _, _, _, rfl, rfl, hq2, atI_nat (j := 5) rfl, r.wt, rfl, num_log2 hc.wt, (by show 8 ≤ sizeLine; decide), fun m nm => ?_⟩
    have qm := ne_of_none (upd_same (H := G) (a := q) (o := .lst ([.str "FLIGHT", .str r.fl, .str "KIND"] ++ r.kd.map fun n => V.str (sI n)))) nm
    refine ⟨q, m, _, _, rfl, rfl, by rw [upd_ne qm]; exact upd_same, upd_same, szl (by rw [List.length_append, List.length_map, hc.kn]; show 3 + 5 + 8 ≤ 1000000; decide), fun u nu => ?_⟩
    have x3 := (x2.trans (Ext.new nm : X0 _ (upd _ m (.lst [.str "FROM", .str r.st, .str "TO", .str r.go, .str "AT", .str (sI r.lv), .str "WANTS", .str (sI r.wt)])))).trans (Ext.new nu : X0 _ (upd _ u (.lst (([.str "FLIGHT", .str r.fl, .str "KIND"] ++ r.kd.map fun n => V.str (sI n)) ++ [.str "FROM", .str r.st, .str "TO", .str r.go, .str "AT", .str (sI r.lv), .str "WANTS", .str (sI r.wt)]))))
    have hq3 := x3.sqT ns0 hq
    refine ⟨_, rfl, _, rfl, p, _, _, _, rfl, rfl, hq3, atI_nat (j := 6) rfl, r.tk, rfl, num_log2 hc.tk, _, rfl, p, _, _, _, rfl, rfl, hq3, atI_nat (j := 7) rfl, r.lt, rfl, num_log2 hc.lt, (by show 4 ≤ sizeLine; decide), fun t nt => ?_⟩
    have ut := ne_of_none (upd_same (a := u)) nt
    refine ⟨u, t, _, _, rfl, rfl, by rw [upd_ne ut]; exact upd_same, upd_same, szl (by rw [List.length_append, List.length_append, List.length_map, hc.kn]; show 3 + 5 + 8 + 4 ≤ 1000000; decide), fun y ny => ?_⟩
    refine k y _ (x3.free y (upd_fr ny)) ?_ ((x3.trans (Ext.new nt)).trans (Ext.new ny))
    rw [upd_same]
    have e : r.ws.map V.str = (([V.str "FLIGHT", .str r.fl, .str "KIND"] ++ r.kd.map fun n => V.str (sI n)) ++ [.str "FROM", .str r.st, .str "TO", .str r.go, .str "AT", .str (sI r.lv), .str "WANTS", .str (sI r.wt)]) ++ [.str "TICK", .str (sI r.tk), .str "LATE", .str (sI r.lt)] := by
      show V.str "FLIGHT" :: V.str r.fl :: V.str "KIND" :: (r.kd.map sI ++ r.tail).map V.str = _
      rw [List.map_append, List.map_map, List.append_assoc, List.append_assoc]
      rfl
    rw [e]
/-! ### the words of a call -/
/-- the defs that make words -/
structure Wo (w : World) (K : Frag) (mg : Str → Option Value) (base : Heap) : Prop where
  chg : Dn Pg w K mg base CX0 3 "_law_change_words" ["_law_change_here"] (spChgW K)
  msg : Dn Pg w K mg base CX0 7 "_law_message_words" ["_law_message_here"] (spMsgW K)
  req : Dn Pg w K mg base CX0 3 "_law_request_words" ["_law_request"] (spReqW K)
  join : Dn Pg w K mg base CX0 3 "_law_joined" ["_law_parts"] spJoin
def spCalW (K : Frag) : Sp := spWs K Cal.d Cal.ws OkCal
/-- a comprehension of lists of words: one turn -/
theorem pts_turn {G0 G H4 : Hp} {D q : Addr} {vs : List V} {wss : List (List Str)} {ws : List Str} (nD : G0 D = none) (xG : X0 G0 G) (hG : G D = some (.lst vs)) (hP : Pts D G vs wss) (lw : wss.length ≤ 100) (nq : G q = none) (hq : H4 q = some (.lst (ws.map V.str))) (x4 : X0 G H4) :
    ∃ acc, H4 D = some (.lst acc) ∧ acc.length < sizeLine ∧ (X0 G0 (upd H4 D (.lst (acc ++ [.ref q]))) ∧ ∃ vs', (upd H4 D (.lst (acc ++ [.ref q]))) D = some (.lst vs') ∧ Pts D (upd H4 D (.lst (acc ++ [.ref q]))) vs' (wss ++ [ws])) := by
  have h4 : H4 D = some (.lst vs) := x4.keep D _ hG id fun _ z => by cases z
  have qD : q ≠ D := fun z => by
    rw [z, hG] at nq
    cases nq
  exact ⟨vs, h4, small1000 (by rw [hP.len]; omega), Ext.ownL (xG.trans x4) nD h4, _, upd_same, (Pts.snoc qD hq (hP.x0 x4)).upd⟩
theorem cal_list {H : Hp} {v : V} {c : Cal} (hd : Dp K H v c.d) : ∃ p xs, v = .ref p ∧ SqT K H p (.str c.key :: xs) ∧ DpAll K H xs c.parts := by
  obtain ⟨p, xs, rfl, h1, h2⟩ := dp_tup hd
  obtain ⟨v1, r1, rfl, e1, h3⟩ := dpa_cons h2
  obtain rfl := dp_str e1
  exact ⟨p, r1, rfl, h1, h3⟩
theorem ok_calw (T : TT a K mg base) (R : Wo w K mg base) (D : Df K mg "_law_call_words" s_law_call_words) : Dn Pg w K mg base CX0 10 "_law_call_words" ["_law_call_here"] (spCalW K) := by
  refine D.dn (fun _ _ _ _ _ _ us hl => match us, hl with | [_], _ => rfl) fun f fd F => ?_
  refine F.ok (k := 9) sc_law_call_words ?_ fun cdv A outer s H vs Q E hr h => ?_
  · rintro vs H Q E ⟨v, c, rfl, _⟩
    rfl
  have nd := sc_law_call_words.nd
  have r3 : Room 3 _ := hr.mono (by decide)
  have r7 : Room 7 _ := hr.mono (by decide)
  refine ⟨_, pss_cons (ps_if (pt_cmpR op_eq (pe_ix ix_tup (pv 0) pe_int (fun _ _ => rfl)) pe_str (nomark _)) (pss_one (ps_ret (pe_op op_cat (pe_lst (pa_cons pe_str pa_nil)) (pe_df R.join r3 (pa_cons (pe_lc (own := [("_law_request", 4)]) (g := gName 4) (tt := tYes) (by rfl) nd (pi_list (pe_ix ix_tup (pv 0) pe_int (fun _ _ => rfl)))
        (blkOk_by (own := [("_law_request", 4)]) (N := ["_law_call_here", "_law_words", "_law_plot", "_law_number_here", "_law_request", "_law_change_here"]) (sc := defScope s_law_call_words) (by decide +kernel)) (fun _ _ _ _ _ => pg_name (i := 4) nd rfl (.inl rfl)) (fun _ _ _ _ _ => pts_nil) (fun _ _ _ _ _ => pe_df R.req r3 (pa_cons (pv 4) pa_nil))) pa_nil))))) pss_nil)
    (pss_cons (ps_if (pt_cmpR op_eq (pe_ix ix_tup (pv 0) pe_int (fun _ _ => rfl)) pe_str (nomark _)) (pss_one (ps_ret (pe_op op_cat (pe_lst (pa_cons pe_str (pa_cons (pe_ix ix_tup (pv 0) pe_int (fun _ _ => rfl)) (pa_cons (pe_ix ix_tup (pv 0) pe_int (fun _ _ => rfl)) (pa_cons (pe_callTy call_str_int (by rfl) (T.no "str") (by decide +kernel) (pa_cons (pe_ix ix_tup (pv 0) pe_int (fun _ _ => rfl)) pa_nil)) pa_nil)))))
        (pe_df R.chg r3 (pa_cons (pe_ix ix_tup (pv 0) pe_int (fun _ _ => rfl)) pa_nil))))) pss_nil)
    (pss_cons (ps_if (pt_cmpR op_eq (pe_ix ix_tup (pv 0) pe_int (fun _ _ => rfl)) pe_str (nomark _)) (pss_one (ps_ret (pe_op op_cat (pe_lst (pa_cons pe_str (pa_cons (pe_ix ix_tup (pv 0) pe_int (fun _ _ => rfl)) (pa_cons (pe_ix ix_tup (pv 0) pe_int (fun _ _ => rfl)) (pa_cons (pe_callTy call_str_int (by rfl) (T.no "str") (by decide +kernel) (pa_cons (pe_ix ix_tup (pv 0) pe_int (fun _ _ => rfl)) pa_nil)) pa_nil)))))
        (pe_df R.join r3 (pa_cons (pe_lc (own := [("_law_change_here", 5)]) (g := gName 5) (tt := tYes) (by rfl) nd (pi_list (pe_ix ix_tup (pv 0) pe_int (fun _ _ => rfl)))
        (blkOk_by (own := [("_law_change_here", 5)]) (N := ["_law_call_here", "_law_words", "_law_plot", "_law_number_here", "_law_request", "_law_change_here"]) (sc := defScope s_law_call_words) (by decide +kernel)) (fun _ _ _ _ _ => pg_name (i := 5) nd rfl (.inl rfl)) (fun _ _ _ _ _ => pts_nil) (fun _ _ _ _ _ => pe_df R.chg r3 (pa_cons (pv 5) pa_nil))) pa_nil))))) pss_nil)
    (pss_cons (ps_if (pt_cmpR op_eq (pe_ix ix_tup (pv 0) pe_int (fun _ _ => rfl)) pe_str (nomark _)) (pss_one (ps_ret (pe_op op_cat (pe_lst (pa_cons pe_str pa_nil)) (pe_df R.msg r7 (pa_cons (pe_ix ix_tup (pv 0) pe_int (fun _ _ => rfl)) pa_nil))))) pss_nil)
    (pss_cons (ps_if (pt_cmpR op_eq (pe_ix ix_tup (pv 0) pe_int (fun _ _ => rfl)) pe_str (nomark _)) (pss_one (ps_ret (pe_op op_cat (pe_lst (pa_cons pe_str pa_nil)) (pe_callTy call_list_of (by rfl) (T.no "list") (by decide +kernel) (pa_cons (pe_slice sl_tup (pv 0) (po_some pe_int) po_none) pa_nil))))) pss_nil)
    (pss_cons (ps_if (pt_cmpR op_eq (pe_ix ix_tup (pv 0) pe_int (fun _ _ => rfl)) pe_str (nomark _)) (pss_one (ps_ret (pe_lst (pa_cons pe_str (pa_cons (pe_ix ix_tup (pv 0) pe_int (fun _ _ => rfl)) (pa_cons (pe_upper (pe_ix ix_tup (pe_ix ix_tup (pv 0) pe_int (fun _ _ => rfl)) pe_int (fun _ _ => rfl)))
        (pa_cons (pe_callTy call_str_int (by rfl) (T.no "str") (by decide +kernel) (pa_cons (pe_ix ix_tup (pe_ix ix_tup (pv 0) pe_int (fun _ _ => rfl)) pe_int (fun _ _ => rfl)) pa_nil)) (pa_cons (pe_ix ix_tup (pe_ix ix_tup (pv 0) pe_int (fun _ _ => rfl)) pe_int (fun _ _ => rfl)) (pa_cons (pe_ix ix_tup (pe_ix ix_tup (pv 0) pe_int (fun _ _ => rfl)) pe_int (fun _ _ => rfl)) pa_nil))))))))) pss_nil)
    (pss_cons (ps_set (i := 1) nd rfl (.inl rfl) (pe_lst (pa_cons pe_str pa_nil)))
    (pss_cons (ps_for PassesOwn.never rfl (pi_list (pe_ix ix_tup (pv 0) pe_int (fun _ _ => rfl))) (pg_name (i := 2) nd rfl (.inl rfl))
      (pss_one (ps_expr (pe_bm PySem.F.plainAttrs_list PySem.F.slot_list_extend PySem.F.type_list_extend mt_extend (pv 1) (pa_cons (pe_lc (own := [("_law_number_here", 3)]) (g := gName 3) (tt := tYes) (by rfl) nd (pi_tup (pv 2))
        (blkOk_by (own := [("_law_number_here", 3)]) (N := ["_law_call_here", "_law_words", "_law_plot", "_law_number_here", "_law_request", "_law_change_here"]) (sc := defScope s_law_call_words) (by decide +kernel)) (fun _ _ _ _ _ => pg_name (i := 3) nd rfl (.inl rfl)) (fun _ _ _ _ _ => pts_nil)
        (fun _ _ _ _ _ => pe_callTy call_str_int (by rfl) (T.no "str") (by decide +kernel) (pa_cons (pv 3) pa_nil))) pa_nil)))))
    (pss_one (ps_ret (pv 1)))))))))), ?_⟩
  obtain ⟨v, c, rfl, hd, hc, k⟩ := h
  obtain ⟨p, xs, rfl, hq, hxs⟩ := cal_list hd
  have wc := ws_clean hc
  cases c with
  | enter rs =>
    have hq : SqT K H p (.str "enter" :: xs) := hq
    obtain ⟨c1, c2, c3⟩ := hc
    obtain ⟨v1, r1, rfl, e1, hxs⟩ := dpa_cons hxs
    obtain rfl := dpa_nil hxs
    obtain ⟨l0, ys, rfl, h3, h4⟩ := dp_lst e1
    have ly : ys.length = rs.length := by rw [dpa_len h4, List.length_map]
    refine ⟨_, rfl, p, _, _, _, rfl, rfl, hq, atI_nat (j := 0) rfl, rfl, _, rfl, if_t (by decide +kernel) ?_⟩
    refine ⟨(by show 1 ≤ sizeLine; decide), fun l nl => ?_⟩
    have xl : X0 H (upd H l (.lst [.str "ENTER"])) := Ext.new nl
    refine ⟨_, rfl, p, _, _, _, rfl, rfl, xl.sqT ns0 hq, atI_nat (j := 1) rfl, l0, rfl, ⟨_, xl.sqL ns0 h3⟩, fun D nD => lc_list (K := K) (a := l0) (xs := ys) (fun i G => X0 (upd H l (.lst [.str "ENTER"])) G ∧ ∃ vs, G D = some (.lst vs) ∧ Pts D G vs ((rs.take i).map Req.ws)) ⟨Ext.new nD, [], upd_same, trivial⟩ (fun i G _ hP => hP.1.sqL ns0 (xl.sqL ns0 h3)) (fun i x G hi hP => ?_) (fun G hP => ?_)⟩
    · obtain ⟨x1, vs, hG, hP⟩ := hP
      obtain ⟨d, hd1, hd2⟩ := dpa_get h4 hi
      obtain ⟨r, hr1, rfl⟩ := map_get hd1
      refine ⟨rfl, ?_⟩
      refine ⟨_, rfl, x, r, rfl, x1.dp0 (xl.dp0 hd2), c3 r (List.mem_of_getElem? hr1), fun q H2 nq hq2 x2 => ?_⟩
      have z := pts_turn nD x1 hG hP (by rw [List.length_map, List.length_take]; omega) nq hq2 x2
      rw [take_succ hr1, List.map_append]
      exact z
    · obtain ⟨x1, vs, hG, hP⟩ := hP
      rw [ly, List.take_length] at hP
      refine ⟨D, D, vs, rs.map Req.ws, rfl, hG, hP, by rw [List.length_map]; omega, fun ws hws => ?_, fun m H3 nm hm x3 => ?_⟩
      · obtain ⟨r, hr1, rfl⟩ := List.mem_map.mp hws
        rw [(req_clean (c3 r hr1)).2]
        decide
      · have hl : H3 l = some (.lst [.str "ENTER"]) := (x1.trans x3).keep l _ upd_same id fun _ z => by cases z
        refine ⟨l, m, _, _, rfl, rfl, hl, hm, szl (by rw [List.length_map]; have := wc.2.1; show 1 + (slash (rs.map Req.ws)).length ≤ _; have e : (Cal.enter rs).ws.length = (slash (rs.map Req.ws)).length + 1 := rfl; omega), fun t nt => ?_⟩
        exact k t _ ((xl.trans (x1.trans x3)).free t nt) upd_same ((xl.trans (x1.trans x3)).trans (Ext.new nt))
  | say b f ch t =>
    have hq : SqT K H p (.str "say" :: xs) := hq
    obtain ⟨c1, c2, c3, c4⟩ := hc
    obtain ⟨v1, r1, rfl, e1, hxs⟩ := dpa_cons hxs
    obtain ⟨v2, r2, rfl, e2, hxs⟩ := dpa_cons hxs
    obtain ⟨v3, r3, rfl, e3, hxs⟩ := dpa_cons hxs
    obtain ⟨v4, r4, rfl, e4, hxs⟩ := dpa_cons hxs
    obtain rfl := dpa_nil hxs
    obtain rfl := dp_str e1
    obtain rfl := dp_str e2
    obtain rfl := dp_int e4
    have cl := chg_clean c3
    refine ⟨_, rfl, p, _, _, _, rfl, rfl, hq, atI_nat (j := 0) rfl, rfl, _, rfl, if_f (by decide +kernel) ?_⟩
    refine ⟨_, rfl, p, _, _, _, rfl, rfl, hq, atI_nat (j := 0) rfl, rfl, _, rfl, if_t (by decide +kernel) ?_⟩
    refine ⟨_, rfl, p, _, _, _, rfl, rfl, hq, atI_nat (j := 1) rfl, _, rfl, p, _, _, _, rfl, rfl, hq, atI_nat (j := 2) rfl, _, rfl, p, _, _, _, rfl, rfl, hq, atI_nat (j := 4) rfl, t, rfl, num_log2 c4, (by show 4 ≤ sizeLine; decide), fun l nl => ?_⟩
    have xl : X0 H (upd H l (.lst [.str "SAY", .str b, .str f, .str (sI t)])) := Ext.new nl
    refine ⟨_, rfl, p, _, _, _, rfl, rfl, xl.sqT ns0 hq, atI_nat (j := 3) rfl, v3, ch, rfl, xl.dp0 e3, c3, fun m H1 nm hm x1 => ?_⟩
    have hl : H1 l = some (.lst [.str "SAY", .str b, .str f, .str (sI t)]) := x1.keep l _ upd_same id fun _ z => by cases z
    refine ⟨l, m, _, _, rfl, rfl, hl, hm, szl (by rw [List.length_map]; show 4 + ch.ws.length ≤ _; omega), fun u nu => ?_⟩
    exact k u _ (xl.free u (x1.free u nu)) upd_same ((xl.trans x1).trans (Ext.new nu))
  | solve b f cs t =>
    have hq : SqT K H p (.str "solve" :: xs) := hq
    obtain ⟨c1, c2, c3, c4, c5⟩ := hc
    obtain ⟨v1, r1, rfl, e1, hxs⟩ := dpa_cons hxs
    obtain ⟨v2, r2, rfl, e2, hxs⟩ := dpa_cons hxs
    obtain ⟨v3, r3, rfl, e3, hxs⟩ := dpa_cons hxs
    obtain ⟨v4, r4, rfl, e4, hxs⟩ := dpa_cons hxs
    obtain rfl := dpa_nil hxs
    obtain rfl := dp_str e1
    obtain rfl := dp_str e2
    obtain rfl := dp_int e4
    obtain ⟨l0, ys, rfl, h3, h4⟩ := dp_lst e3
    have ly : ys.length = cs.length := by rw [dpa_len h4, List.length_map]
    refine ⟨_, rfl, p, _, _, _, rfl, rfl, hq, atI_nat (j := 0) rfl, rfl, _, rfl, if_f (by decide +kernel) ?_⟩
    refine ⟨_, rfl, p, _, _, _, rfl, rfl, hq, atI_nat (j := 0) rfl, rfl, _, rfl, if_f (by decide +kernel) ?_⟩
    refine ⟨_, rfl, p, _, _, _, rfl, rfl, hq, atI_nat (j := 0) rfl, rfl, _, rfl, if_t (by decide +kernel) ?_⟩
    refine ⟨_, rfl, p, _, _, _, rfl, rfl, hq, atI_nat (j := 1) rfl, _, rfl, p, _, _, _, rfl, rfl, hq, atI_nat (j := 2) rfl, _, rfl, p, _, _, _, rfl, rfl, hq, atI_nat (j := 4) rfl, t, rfl, num_log2 c5, (by show 4 ≤ sizeLine; decide), fun l nl => ?_⟩
    have xl : X0 H (upd H l (.lst [.str "SOLVE", .str b, .str f, .str (sI t)])) := Ext.new nl
    refine ⟨_, rfl, p, _, _, _, rfl, rfl, xl.sqT ns0 hq, atI_nat (j := 3) rfl, l0, rfl, ⟨_, xl.sqL ns0 h3⟩, fun D nD => lc_list (K := K) (a := l0) (xs := ys) (fun i G => X0 (upd H l (.lst [.str "SOLVE", .str b, .str f, .str (sI t)])) G ∧ ∃ vs, G D = some (.lst vs) ∧ Pts D G vs ((cs.take i).map Chg.ws)) ⟨Ext.new nD, [], upd_same, trivial⟩ (fun i G _ hP => hP.1.sqL ns0 (xl.sqL ns0 h3)) (fun i x G hi hP => ?_) (fun G hP => ?_)⟩
    · obtain ⟨x1, vs, hG, hP⟩ := hP
      obtain ⟨d, hd1, hd2⟩ := dpa_get h4 hi
      obtain ⟨r, hr1, rfl⟩ := map_get hd1
      refine ⟨rfl, ?_⟩
      refine ⟨_, rfl, x, r, rfl, x1.dp0 (xl.dp0 hd2), c4 r (List.mem_of_getElem? hr1), fun q H2 nq hq2 x2 => ?_⟩
      have z := pts_turn nD x1 hG hP (by rw [List.length_map, List.length_take]; omega) nq hq2 x2
      rw [take_succ hr1, List.map_append]
      exact z
    · obtain ⟨x1, vs, hG, hP⟩ := hP
      rw [ly, List.take_length] at hP
      refine ⟨D, D, vs, cs.map Chg.ws, rfl, hG, hP, by rw [List.length_map]; omega, fun ws hws => ?_, fun m H3 nm hm x3 => ?_⟩
      · obtain ⟨r, hr1, rfl⟩ := List.mem_map.mp hws
        have := (chg_clean (c4 r hr1)).2.1
        omega
      · have hl : H3 l = some (.lst [.str "SOLVE", .str b, .str f, .str (sI t)]) := (x1.trans x3).keep l _ upd_same id fun _ z => by cases z
        refine ⟨l, m, _, _, rfl, rfl, hl, hm, szl (by rw [List.length_map]; have := wc.2.1; show 4 + (slash (cs.map Chg.ws)).length ≤ _; have e : (Cal.solve b f cs t).ws.length = (slash (cs.map Chg.ws)).length + 4 := rfl; omega), fun u nu => ?_⟩
        exact k u _ ((xl.trans (x1.trans x3)).free u nu) upd_same ((xl.trans (x1.trans x3)).trans (Ext.new nu))
  | hear m =>
    have hq : SqT K H p (.str "hear" :: xs) := hq
    obtain ⟨v1, r1, rfl, e1, hxs⟩ := dpa_cons hxs
    obtain rfl := dpa_nil hxs
    have cl := msg_clean hc
    refine ⟨_, rfl, p, _, _, _, rfl, rfl, hq, atI_nat (j := 0) rfl, rfl, _, rfl, if_f (by decide +kernel) ?_⟩
    refine ⟨_, rfl, p, _, _, _, rfl, rfl, hq, atI_nat (j := 0) rfl, rfl, _, rfl, if_f (by decide +kernel) ?_⟩
    refine ⟨_, rfl, p, _, _, _, rfl, rfl, hq, atI_nat (j := 0) rfl, rfl, _, rfl, if_f (by decide +kernel) ?_⟩
    refine ⟨_, rfl, p, _, _, _, rfl, rfl, hq, atI_nat (j := 0) rfl, rfl, _, rfl, if_t (by decide +kernel) ?_⟩
    refine ⟨(by show 1 ≤ sizeLine; decide), fun l nl => ?_⟩
    have xl : X0 H (upd H l (.lst [.str "HEAR"])) := Ext.new nl
    refine ⟨_, rfl, p, _, _, _, rfl, rfl, xl.sqT ns0 hq, atI_nat (j := 1) rfl, v1, m, rfl, xl.dp0 e1, hc, fun q H1 nq hq2 x1 => ?_⟩
    have hl : H1 l = some (.lst [.str "HEAR"]) := x1.keep l _ upd_same id fun _ z => by cases z
    refine ⟨l, q, _, _, rfl, rfl, hl, hq2, szl (by rw [List.length_map]; show 1 + m.ws.length ≤ _; omega), fun u nu => ?_⟩
    exact k u _ (xl.free u (x1.free u nu)) upd_same ((xl.trans x1).trans (Ext.new nu))
  | give x y z =>
    have hq : SqT K H p (.str "give" :: xs) := hq
    have hxs : DpAll K H xs (([x, y, z] : List Str).map .str) := hxs
    obtain rfl := dpa_strs hxs
    refine ⟨_, rfl, p, _, _, _, rfl, rfl, hq, atI_nat (j := 0) rfl, rfl, _, rfl, if_f (by decide +kernel) ?_⟩
    refine ⟨_, rfl, p, _, _, _, rfl, rfl, hq, atI_nat (j := 0) rfl, rfl, _, rfl, if_f (by decide +kernel) ?_⟩
    refine ⟨_, rfl, p, _, _, _, rfl, rfl, hq, atI_nat (j := 0) rfl, rfl, _, rfl, if_f (by decide +kernel) ?_⟩
    refine ⟨_, rfl, p, _, _, _, rfl, rfl, hq, atI_nat (j := 0) rfl, rfl, _, rfl, if_f (by decide +kernel) ?_⟩
    refine ⟨_, rfl, p, _, _, _, rfl, rfl, hq, atI_nat (j := 0) rfl, rfl, _, rfl, if_t (by decide +kernel) ?_⟩
    refine ⟨(by show 1 ≤ sizeLine; decide), fun l nl => ?_⟩
    have xl : X0 H (upd H l (.lst [.str "GIVE"])) := Ext.new nl
    refine ⟨_, rfl, _, rfl, p, _, rfl, xl.sqT ns0 hq, (fun e => by have := e.1; cases this), fun q nq => ⟨q, _, rfl, .inr (SqT.of upd_same), fun m nm => ?_⟩⟩
    have lq := ne_of_none (upd_same (H := H) (a := l) (o := .lst [.str "GIVE"])) nq
    have lm : l ≠ m := ne_of_none (by rw [upd_ne lq]; exact upd_same) nm
    refine ⟨l, m, _, _, rfl, rfl, by rw [upd_ne lm, upd_ne lq]; exact upd_same, upd_same, (by show 1 + 3 ≤ sizeLine; decide), fun u nu => ?_⟩
    exact k u _ (xl.free u (upd_fr (upd_fr nu))) upd_same (((xl.trans (Ext.new nq)).trans (Ext.new nm)).trans (Ext.new nu))
  | pass f kk n s' r =>
    have hq : SqT K H p (.str "pass_on" :: xs) := hq
    obtain ⟨c1, c2, c3, c4⟩ := hc
    obtain ⟨v1, r1, rfl, e1, hxs⟩ := dpa_cons hxs
    obtain ⟨v2, r2, rfl, e2, hxs⟩ := dpa_cons hxs
    obtain rfl := dpa_nil hxs
    obtain rfl := dp_str e1
    obtain ⟨b, ys, rfl, h3, h4⟩ := dp_tup e2
    obtain ⟨u1, q1, rfl, f1, h4⟩ := dpa_cons h4
    obtain ⟨u2, q2, rfl, f2, h4⟩ := dpa_cons h4
    obtain ⟨u3, q3, rfl, f3, h4⟩ := dpa_cons h4
    obtain ⟨u4, q4, rfl, f4, h4⟩ := dpa_cons h4
    obtain rfl := dpa_nil h4
    obtain rfl := dp_str f1
    obtain rfl := dp_int f2
    obtain rfl := dp_str f3
    obtain rfl := dp_str f4
    have eU : Txt.upper (if kk then ("took" : Str) else "give") = (if kk then ("TOOK" : Str) else "GIVE") := by cases kk <;> decide +kernel
    refine ⟨_, rfl, p, _, _, _, rfl, rfl, hq, atI_nat (j := 0) rfl, rfl, _, rfl, if_f (by decide +kernel) ?_⟩
    refine ⟨_, rfl, p, _, _, _, rfl, rfl, hq, atI_nat (j := 0) rfl, rfl, _, rfl, if_f (by decide +kernel) ?_⟩
    refine ⟨_, rfl, p, _, _, _, rfl, rfl, hq, atI_nat (j := 0) rfl, rfl, _, rfl, if_f (by decide +kernel) ?_⟩
    refine ⟨_, rfl, p, _, _, _, rfl, rfl, hq, atI_nat (j := 0) rfl, rfl, _, rfl, if_f (by decide +kernel) ?_⟩
    refine ⟨_, rfl, p, _, _, _, rfl, rfl, hq, atI_nat (j := 0) rfl, rfl, _, rfl, if_f (by decide +kernel) ?_⟩
    refine ⟨_, rfl, p, _, _, _, rfl, rfl, hq, atI_nat (j := 0) rfl, rfl, _, rfl, if_t (by decide +kernel) ?_⟩
    refine ⟨_, rfl, p, _, _, _, rfl, rfl, hq, atI_nat (j := 1) rfl, _, rfl, p, _, _, _, rfl, rfl, hq, atI_nat (j := 2) rfl, b, _, _, _, rfl, rfl, h3, atI_nat (j := 0) rfl, ⟨_, rfl⟩, _, rfl, rfl, (by cases kk <;> decide +kernel), ?_⟩
    refine ⟨_, rfl, p, _, _, _, rfl, rfl, hq, atI_nat (j := 2) rfl, b, _, _, _, rfl, rfl, h3, atI_nat (j := 1) rfl, n, rfl, num_log2 c2, ?_⟩
    refine ⟨_, rfl, p, _, _, _, rfl, rfl, hq, atI_nat (j := 2) rfl, b, _, _, _, rfl, rfl, h3, atI_nat (j := 2) rfl, ?_⟩
    refine ⟨_, rfl, p, _, _, _, rfl, rfl, hq, atI_nat (j := 2) rfl, b, _, _, _, rfl, rfl, h3, atI_nat (j := 3) rfl, (by show 6 ≤ sizeLine; decide), fun u nu => ?_⟩
    exact k u _ nu (by rw [upd_same, eU]; rfl) (Ext.new nu)
  | adv qs =>
    have hq : SqT K H p (.str "advance" :: xs) := hq
    obtain ⟨c1, c2⟩ := hc
    obtain ⟨v1, r1, rfl, e1, hxs⟩ := dpa_cons hxs
    obtain rfl := dpa_nil hxs
    obtain ⟨l0, ys, rfl, h3, h4⟩ := dp_lst e1
    have ly : ys.length = qs.length := by rw [dpa_len h4, List.length_map]
    refine ⟨_, rfl, p, _, _, _, rfl, rfl, hq, atI_nat (j := 0) rfl, rfl, _, rfl, if_f (by decide +kernel) ?_⟩
    refine ⟨_, rfl, p, _, _, _, rfl, rfl, hq, atI_nat (j := 0) rfl, rfl, _, rfl, if_f (by decide +kernel) ?_⟩
    refine ⟨_, rfl, p, _, _, _, rfl, rfl, hq, atI_nat (j := 0) rfl, rfl, _, rfl, if_f (by decide +kernel) ?_⟩
    refine ⟨_, rfl, p, _, _, _, rfl, rfl, hq, atI_nat (j := 0) rfl, rfl, _, rfl, if_f (by decide +kernel) ?_⟩
    refine ⟨_, rfl, p, _, _, _, rfl, rfl, hq, atI_nat (j := 0) rfl, rfl, _, rfl, if_f (by decide +kernel) ?_⟩
    refine ⟨_, rfl, p, _, _, _, rfl, rfl, hq, atI_nat (j := 0) rfl, rfl, _, rfl, if_f (by decide +kernel) ?_⟩
    refine ⟨(by show 1 ≤ sizeLine; decide), fun l nl => ?_⟩
    have xl : X0 H (upd H l (.lst [.str "ADVANCE"])) := Ext.new nl
    have fl : ∀ i, ((qs.take i).map plotW).flatten.length ≤ 9 := fun i => by
      have q := (plots_clean (ps := qs.take i) fun p hp => c2 p (List.mem_of_mem_take hp)).2
      rw [q, List.length_take]
      omega
    refine ⟨_, rfl, p, _, _, _, rfl, rfl, xl.sqT ns0 hq, atI_nat (j := 1) rfl, l0, rfl, ⟨_, xl.sqL ns0 h3⟩, for_list (K := K) (a := l0) (xs := ys) (fun i σ G => ∃ v2 : Option V, σ = [some (.ref p), some (.ref l), v2, none, none, none] ∧ X0 H G ∧ G l = some (.lst ((("ADVANCE" : Str) :: ((qs.take i).map plotW).flatten).map V.str))) ⟨none, rfl, xl, upd_same⟩ (fun i σ G _ hP => ?_) ?_ ?_⟩
    · obtain ⟨_, _, xG, _⟩ := hP
      exact xG.sqL ns0 h3
    · rintro i x σ G hi ⟨v2, rfl, xG, hl⟩
      obtain ⟨d, hd1, hd2⟩ := dpa_get h4 hi
      obtain ⟨q, hq1, rfl⟩ := map_get hd1
      have hd3 := xG.dp0 hd2
      obtain ⟨t, ts, rfl, g1, g2⟩ := dp_tup hd3
      have g2 : DpAll K G ts ((plotL q).map .int) := g2
      obtain rfl := dpa_ints g2
      have oq := plot_ok (c2 q (List.mem_of_getElem? hq1))
      refine ⟨_, rfl, .inl ⟨rfl, _, SqL.of hl⟩, ?_⟩
      refine ⟨_, rfl, t, rfl, ⟨_, g1⟩, fun D nD => lc_tup (K := K) (a := t) (xs := (plotL q).map V.int) (fun j G2 => X0 G G2 ∧ G2 D = some (.lst (((plotL q).take j).map fun n => V.str (sI n)))) ⟨Ext.new nD, upd_same⟩ (fun j G2 _ hP => hP.1.sqT ns0 g1) (fun j y G2 hj hP => ?_) (fun G2 hP => ?_)⟩
      · obtain ⟨x2, hG2⟩ := hP
        rw [List.getElem?_map] at hj
        obtain ⟨n, hn, rfl⟩ := Option.map_eq_some_iff.mp hj
        have on := oq _ (List.mem_of_getElem? hn)
        refine ⟨rfl, ?_⟩
        refine ⟨_, rfl, n, rfl, int_log2 on, _, hG2, small1000 (by rw [List.length_map, List.length_take]; show min j 3 ≤ _; omega), Ext.ownL x2 nD hG2, ?_⟩
        rw [upd_same, take_succ hn, List.map_append]
        rfl
      · obtain ⟨x2, hG2⟩ := hP
        have hl2 := x2.keep l _ hl id fun _ z => by cases z
        have f9 := fl i
        refine ⟨l, D, _, _, rfl, rfl, hl2, hG2, szl (by rw [List.length_map, List.length_cons, List.length_map, List.length_take]; show _ + 1 + min 3 3 ≤ _; omega), _, rfl, Ext.ownL (xG.trans x2) nl hl2, ?_⟩
        rw [upd_same, take_succ hq1, List.map_append, List.flatten_append, List.map_cons, List.map_cons, List.map_append]
        rfl
    · rintro σ G ⟨v2, rfl, xG, hl⟩
      rw [ly, List.take_length] at hl
      exact ⟨_, rfl, k l G nl hl xG⟩
end
end K31
/-! K31, the law's defs 7: sums, lines. -/
namespace K31
open PySem PySem.Spec PyProof.Rows L2 GxR
open PySem.W (Frag)
open TL (tl)
abbrev sgs : Str := " !\"#$&'()*+,-./0123456789:;<=>?@ABCDEFGHIJKLMNOPQRSTUVWXYZ"
theorem idx_all : ∀ c ∈ List.range' 32 59, c ≠ 37 → Txt.index0 sgs ⟨#[c]⟩ = some (if c < 37 then c - 32 else c - 33) := by decide +kernel
theorem idx_ok {c : Nat} (h : c = 32 ∨ Sg c) : Txt.index0 sgs ⟨#[c]⟩ = some (if c < 37 then c - 32 else c - 33) := by
  refine idx_all c ?_ ?_
  · rw [List.mem_range'_1]
    rcases h with h | h
    · omega
    · obtain ⟨h1, h2, _⟩ := h
      omega
  · rcases h with h | h
    · omega
    · exact h.2.2
def spSumW : Sp := fun vs H Q _ => ∃ x, vs = [.str x] ∧ (∀ c ∈ tl x, c = 32 ∨ Sg c) ∧ x.length ≤ 100000 ∧ Q (.int (tsum x)) H
section
variable {a : Ad} {w : World} {K : Frag} {mg : Str → Option Value} {base : Heap}
theorem ok_lsum (T : TT a K mg base) (D : Df K mg "_law_sum" s_law_sum) : Dn Pg w K mg base CX0 3 "_law_sum" ["_law_text"] spSumW := by
  refine D.dn (fun _ _ _ _ _ _ us hl => match us, hl with | [_], _ => rfl) fun f fd F => ?_
  refine F.ok (k := 2) sc_law_sum ?_ fun cdv A outer s H vs Q E hr h => ?_
  · rintro vs H Q E ⟨x, rfl, _⟩
    rfl
  have nd := sc_law_sum.nd
  refine ⟨_, pss_cons (ps_set (i := 1) nd rfl (.inl rfl) pe_int)
    (pss_cons (ps_set (i := 2) nd rfl (.inl rfl) pe_str)
    (pss_cons (ps_for PassesOwn.never rfl (pi_range1 (by rfl) (T.no "range") (pa_cons (pe_callB call_len_str (by rfl) (T.no "len") PySem.boot_len (pa_cons (pv 0) pa_nil)) pa_nil)) (pg_name (i := 3) nd rfl (.inl rfl))
      (pss_cons (ps_set (i := 4) nd rfl (.inl rfl) (pe_op op_add (pe_bmS PySem.F.plainAttrs_str PySem.F.slot_str_index PySem.F.type_str_index (mt_indexX rfl takes0) (pv 2) (pa_cons (pe_ix ix_str (pv 0) (pv 3) (fun _ _ => rfl)) pa_nil)) pe_int))
      (pss_one (ps_set (i := 1) nd rfl (.inl rfl) (pe_op op_add (pv 1) (pe_op op_mul (pe_op op_add (pv 3) pe_int) (pe_ifExp (pt_cmpR op_lt (pv 4) pe_int (nomark _)) (pv 4) (pe_op op_add (pv 4) pe_int))))))))
    (pss_one (ps_ret (pe_op op_mod (pe_callTy call_int1 (by rfl) (T.no "int") (by decide +kernel) (pa_cons (pv 1) pa_nil)) pe_int))))), ?_⟩
  obtain ⟨x, rfl, hx, hl, k⟩ := h
  refine ⟨_, rfl, x, rfl, szl (by omega), (x.length : Int), rfl, by omega, by omega, ?_⟩
  refine for_range (lo := 0) (n := ((x.length : Int)).toNat) (fun i σ G => G = H ∧ ∃ v3 v4 : Option V, σ = [some (.str x), some (.int ((tsumL 0 ((tl x).take i) : Nat) : Int)), some (.str sgs), v3, v4]) ⟨rfl, none, none, rfl⟩ ?_ ?_
  · rintro i σ G hi ⟨rfl, v3, v4, rfl⟩
    have hi' : i < (tl x).length := by
      rw [← TL.len_tl]
      omega
    have hc := hx _ (List.getElem_mem hi')
    refine ⟨_, rfl, rfl, _, rfl, _, rfl, x, (0 + (i : Int)), (tl x)[i], rfl, rfl, szl (by omega), ?_, sgs, _, rfl, rfl, fun q hq => ?_, fun hq => ?_⟩
    · rw [Int.zero_add]
      exact atI_nat (List.getElem?_eq_getElem hi')
    · rw [idx_ok hc] at hq
      have eq := Option.some.inj hq
      refine ⟨_, _, rfl, rfl, ?_⟩
      refine ⟨_, rfl, _, rfl, _, _, rfl, rfl, _, rfl, _, _, rfl, rfl, _, rfl, ?_⟩
      have e1 : (tl x).take (i + 1) = (tl x).take i ++ [(tl x)[i]] := take_succ (List.getElem?_eq_getElem hi')
      have fin : ((tsumL 0 ((tl x).take i) : Nat) : Int) + (0 + (i : Int) + 1) * (((tl x)[i] : Nat) : Int) = ((tsumL 0 ((tl x).take (i + 1)) : Nat) : Int) := by
        rw [e1, tsumL_app, List.length_take, Nat.min_eq_left (by omega)]
        show _ = ((tsumL 0 ((tl x).take i) + ((0 + i + 1) * (tl x)[i] + 0) : Nat) : Int)
        push_cast
        rw [Int.add_zero]
      refine ite2 (fun hlt => ?_) (fun hlt => ?_)
      · have hlt := of_decide_eq_true hlt
        refine ⟨_, rfl, _, _, rfl, rfl, .inl ⟨by omega, by omega⟩, _, _, rfl, rfl, rfl, some (.int (0 + (i : Int))), some (.int ((q : Int) + 32)), ?_⟩
        have ec : ((q : Nat) : Int) + 32 = (((tl x)[i] : Nat) : Int) := by
          by_cases h37 : (tl x)[i] < 37
          · rw [if_pos h37] at eq
            rcases hc with hc | hc
            · omega
            · have := hc.1
              omega
          · rw [if_neg h37] at eq
            rcases hc with hc | hc
            · omega
            · have := hc.2.2
              omega
        show [some (V.str x), some (.int (((tsumL 0 ((tl x).take i) : Nat) : Int) + (0 + (i : Int) + 1) * ((q : Int) + 32))), some (.str sgs), some (.int (0 + (i : Int))), some (.int ((q : Int) + 32))] = _
        rw [ec, fin]
      · have hlt : ¬ ((q : Nat) : Int) + 32 < 37 := fun z => hlt (decide_eq_true z)
        refine ⟨_, rfl, _, _, rfl, rfl, _, _, rfl, rfl, .inl ⟨by omega, by omega⟩, _, _, rfl, rfl, rfl, some (.int (0 + (i : Int))), some (.int ((q : Int) + 32)), ?_⟩
        have ec : ((q : Nat) : Int) + 32 + 1 = (((tl x)[i] : Nat) : Int) := by
          by_cases h37 : (tl x)[i] < 37
          · rw [if_pos h37] at eq
            omega
          · rw [if_neg h37] at eq
            omega
        show [some (V.str x), some (.int (((tsumL 0 ((tl x).take i) : Nat) : Int) + (0 + (i : Int) + 1) * ((q : Int) + 32 + 1))), some (.str sgs), some (.int (0 + (i : Int))), some (.int ((q : Int) + 32))] = _
        rw [ec, fin]
    · rw [idx_ok hc] at hq
      cases hq
  · rintro σ G ⟨rfl, v3, v4, rfl⟩
    have e : (tl x).take ((x.length : Int)).toNat = tl x := List.take_of_length_le (by rw [← TL.len_tl]; omega)
    rw [e]
    exact ⟨_, rfl, .inl ⟨_, rfl, _, _, rfl, rfl, (by show (0 : Int) < 9973; decide), k⟩⟩
def spLineW (K : Frag) : Sp := fun vs H Q _ => ∃ (n : Nat) (v : V) (c : Cal), vs = [.int (n : Int), v] ∧ n < 1000 ∧ Dp K H v c.d ∧ OkCal c ∧ ∀ H', X0 H H' → Q (.str (lineT n c)) H'
theorem ok_lline (T : TT a K mg base) (C : Dn Pg w K mg base CX0 10 "_law_call_words" ["_law_call_here"] (spCalW K)) (DS : Df K mg "_law_sum" s_law_sum) (D : Df K mg "_law_line" s_law_line) : Dn Pg w K mg base CX0 12 "_law_line" ["_law_number_here", "_law_call_here"] (spLineW K) := by
  refine D.dn (fun _ _ _ _ _ _ us hl => match us, hl with | [_, _], _ => rfl) fun f fd F => ?_
  refine F.ok (k := 11) sc_law_line ?_ fun cdv A outer s H vs Q E hr h => ?_
  · rintro vs H Q E ⟨n, v, c, rfl, _⟩
    rfl
  have nd := sc_law_line.nd
  have S := ok_lsum (w := w) T DS
  refine ⟨_, pss_cons (ps_set (i := 2) nd rfl (.inl rfl) (pe_join pe_str (pe_df C (hr.mono (by decide)) (pa_cons (pv 1) pa_nil))))
    (pss_one (ps_ret (pe_op op_add_str (pe_op op_add_str (pe_op op_add_str (pe_op op_add_str (pe_callTy call_str_int (by rfl) (T.no "str") (by decide +kernel) (pa_cons (pv 0) pa_nil)) pe_str) (pe_callTy call_str_int (by rfl) (T.no "str") (by decide +kernel) (pa_cons (pe_df S (hr.mono (by decide)) (pa_cons (pv 2) pa_nil)) pa_nil))) pe_str) (pv 2)))), ?_⟩
  obtain ⟨n, v, c, rfl, hn, hd, hc, k⟩ := h
  have wc := ws_clean hc
  have l1 := num_len (nat_num hn)
  have l2 := num_len (tsum_ok (cTx c))
  have l3 := cTx_len hc
  refine ⟨⟨_, rfl⟩, _, rfl, v, c, rfl, hd, hc, fun l H1 nl hl x1 => ?_⟩
  refine ⟨bk, l, c.ws, rfl, rfl, .inl (SqL.of hl), join_ok (k := 10) (n := 64) (fun w hw => (wc.1 w hw).hi) wc.2.1 (by rw [bk_len]; decide), ?_⟩
  refine ⟨_, rfl, (n : Int), rfl, num_log2 (nat_num hn), sI (n : Int), bk, rfl, rfl, szl (by rw [bk_len]; omega), ?_⟩
  refine ⟨_, rfl, cTx c, rfl, cTx_sg hc, by omega, tsum (cTx c), rfl, num_log2 (tsum_ok _), sI (n : Int) ++ bk, sI (tsum (cTx c)), rfl, rfl, szl (by rw [len_app, bk_len]; omega), ?_⟩
  refine ⟨sI (n : Int) ++ bk ++ sI (tsum (cTx c)), bk, rfl, rfl, szl (by simp only [len_app, bk_len]; omega), ?_⟩
  refine ⟨_, rfl, sI (n : Int) ++ bk ++ sI (tsum (cTx c)) ++ bk, cTx c, rfl, rfl, szl (by simp only [len_app, bk_len]; omega), ?_⟩
  have e : sI (n : Int) ++ bk ++ sI (tsum (cTx c)) ++ bk ++ cTx c = lineT n c := by
    unfold lineT lineX
    simp only [app_assoc]
  rw [e]
  exact k H1 x1
end
end K31
/-! K31, part 24: repr of the data. -/
namespace K31
open PySem PySem.Spec PyProof.Rows L2 GxR
open PySem.W (Frag)
open TL (tl)
/-- data that are shown: how deep, how many signs and items -/
structure Ni (n m : Nat) (d : PyData) : Prop where
  sh : d.showable = true
  nd : d.hasDict = false
  dp : d.depth ≤ n
  ls : d.leavesShort 12 = true
  bk : d.bulk ≤ m
structure NiA (n m : Nat) (ds : List PyData) : Prop where
  sh : PyData.showableAll ds = true
  nd : PyData.hasDictAll ds = false
  dp : PyData.depthAll ds ≤ n
  ls : PyData.leavesShortAll 12 ds = true
  bk : PyData.bulkAll ds ≤ m
section
variable {n m n' m' k : Nat} {d : PyData} {ds : List PyData}
theorem Ni.mono (h : Ni n m d) (a : n ≤ n') (b : m ≤ m') : Ni n' m' d := ⟨h.sh, h.nd, Nat.le_trans h.dp a, h.ls, Nat.le_trans h.bk b⟩
theorem NiA.mono (h : NiA n m ds) (a : n ≤ n') (b : m ≤ m') : NiA n' m' ds := ⟨h.sh, h.nd, Nat.le_trans h.dp a, h.ls, Nat.le_trans h.bk b⟩
theorem NiA.nil : NiA 0 0 [] := ⟨rfl, rfl, by simp only [PyData.depthAll, Nat.le_refl], rfl, by simp only [PyData.bulkAll, Nat.le_refl]⟩
theorem NiA.cons (a : Ni n m d) (b : NiA n m' ds) : NiA n (m + 1 + m') (d :: ds) := by
  refine ⟨?_, ?_, ?_, ?_, ?_⟩
  · simp only [PyData.showableAll, a.sh, b.sh, Bool.and_self]
  · simp only [PyData.hasDictAll, a.nd, b.nd, Bool.or_self]
  · simp only [PyData.depthAll]
    have := a.dp
    have := b.dp
    omega
  · simp only [PyData.leavesShortAll, a.ls, b.ls, Bool.and_self]
  · simp only [PyData.bulkAll]
    have := a.bk
    have := b.bk
    omega
theorem NiA.all : ∀ {ds : List PyData}, (∀ d ∈ ds, Ni n m d) → NiA n (ds.length * (m + 1)) ds
  | [], _ => NiA.nil.mono (Nat.zero_le _) (Nat.zero_le _)
  | d :: ds, h => (NiA.cons (h d List.mem_cons_self) (NiA.all fun e he => h e (List.mem_cons_of_mem _ he))).mono (Nat.le_refl _) (by rw [List.length_cons, Nat.succ_mul]; omega)
theorem Ni.tup (h : NiA n m ds) : Ni (n + 1) m (.tuple ds) := ⟨by simp only [PyData.showable, h.sh], by simp only [PyData.hasDict, h.nd], by simp only [PyData.depth]; have := h.dp; omega, by simp only [PyData.leavesShort, h.ls], by simp only [PyData.bulk]; exact h.bk⟩
theorem Ni.lst (h : NiA n m ds) : Ni (n + 1) m (.list ds) := ⟨by simp only [PyData.showable, h.sh], by simp only [PyData.hasDict, h.nd], by simp only [PyData.depth]; have := h.dp; omega, by simp only [PyData.leavesShort, h.ls], by simp only [PyData.bulk]; exact h.bk⟩
theorem Ni.str {x : Str} (h : ∀ c ∈ tl x, c < 1000) (hl : x.length ≤ 10) : Ni 0 10 (.str x) := by
  refine ⟨rfl, rfl, by simp only [PyData.depth, Nat.le_refl], ?_, ?_⟩
  · simp only [PyData.leavesShort, List.all_eq_true, decide_eq_true_eq]
    exact fun c hc => Nat.lt_trans (h c hc) (by decide)
  · simp only [PyData.bulk]
    exact hl
theorem Ni.cl {x : Str} (h : Clean x) : Ni 0 10 (.str x) := Ni.str (fun c hc => by have := h.sg c hc; unfold Sg at this; omega) h.hi
theorem Ni.int {i : Int} (h : OkInt i) : Ni 0 0 (.int i) := by
  have hl : i.natAbs < 10 ^ 9 := by unfold OkInt at h; omega
  refine ⟨?_, rfl, by simp only [PyData.depth, Nat.le_refl], ?_, by simp only [PyData.bulk, Nat.le_refl]⟩
  · simp only [PyData.showable, decide_eq_true_eq]
    exact PySem.Spec.log2_small (Nat.lt_of_lt_of_le hl (Nat.le_trans (m := 2 ^ 30) (by decide) (Nat.pow_le_pow_right (n := 2) (by decide) (by omega))))
  · simp only [PyData.leavesShort, decide_eq_true_eq]
    have e : (PyData.shown (.int i)).length = (sI i).length := rfl
    have := int_text_length_le10 (a := i) (k := 9) (by decide) hl
    have e2 : (sI i).length = (toString i).length := PySem.ofString_length _
    omega
theorem num_int {i : Int} (h : OkNum i) : OkInt i := ⟨by have := h.1; omega, h.2⟩
theorem Ni.num {i : Int} (h : OkNum i) : Ni 0 0 (.int i) := Ni.int (num_int h)
end
theorem Ni.name {x : Str} (h : OkName x) : Ni 0 10 (.str x) := Ni.cl (name_clean h)
theorem Ni.chg {c : Chg} (h : OkChg c) : Ni 2 80 c.d := by
  cases c with
  | lvl n => exact (Ni.tup (.cons (Ni.str (x := "level") (by decide) (by decide)) (.cons (Ni.num h) NiA.nil))).mono (by decide) (by decide)
  | spd n => exact (Ni.tup (.cons (Ni.str (x := "speed") (by decide) (by decide)) (.cons (Ni.num h) NiA.nil))).mono (by decide) (by decide)
  | rt ns =>
    obtain ⟨_, l, a⟩ := h
    have q : NiA 0 66 (ns.map PyData.str) := (NiA.all (m := 10) fun d hd => by
      obtain ⟨x, hx, rfl⟩ := List.mem_map.mp hd
      exact Ni.name (a x hx)).mono (Nat.le_refl _) (by rw [List.length_map]; omega)
    exact (Ni.tup (.cons ((Ni.str (x := "route") (by decide) (by decide)).mono (Nat.zero_le 1) (Nat.le_refl _)) (.cons (Ni.tup q) (NiA.nil.mono (Nat.zero_le _) (Nat.le_refl _))))).mono (by decide) (by decide)
theorem Ni.clr {c : Clr} (h : OkClr c) : Ni 3 100 c.d :=
  (Ni.tup (.cons ((Ni.name h.fl).mono (Nat.zero_le 2) (Nat.le_refl _)) (.cons ((Ni.num h.num).mono (Nat.zero_le 2) (Nat.le_refl _)) (.cons ((Ni.num h.tk).mono (Nat.zero_le 2) (Nat.le_refl _)) (.cons (Ni.chg h.ch) (NiA.nil.mono (Nat.zero_le _) (Nat.le_refl _))))))).mono (by decide) (by decide)
theorem Ni.msg {c : Msg} (h : OkMsg c) : Ni 4 120 c.d := by
  cases c with
  | long k c => exact (Ni.tup (.cons ((Ni.str (x := k.lo) (by cases k <;> decide) (by cases k <;> decide)).mono (Nat.zero_le 3) (Nat.le_refl _)) (.cons (Ni.clr h) (NiA.nil.mono (Nat.zero_le _) (Nat.le_refl _))))).mono (by decide) (by decide)
  | short k f n => exact (Ni.tup (.cons (Ni.str (x := k.lo) (by cases k <;> decide) (by cases k <;> decide)) (.cons (Ni.name h.1) (.cons (Ni.num h.2) NiA.nil)))).mono (by decide) (by decide)
theorem Ni.req {c : Req} (h : OkReq c) : Ni 2 60 c.d := by
  have q : NiA 0 5 (c.kd.map PyData.int) := (NiA.all (m := 0) fun d hd => by
    obtain ⟨x, hx, rfl⟩ := List.mem_map.mp hd
    exact Ni.num (h.kd x hx)).mono (Nat.le_refl _) (by rw [List.length_map, h.kn]; decide)
  exact (Ni.tup (.cons ((Ni.name h.fl).mono (Nat.zero_le 1) (Nat.le_refl _)) (.cons (Ni.tup q) (.cons ((Ni.name h.st).mono (Nat.zero_le 1) (Nat.le_refl _)) (.cons ((Ni.name h.go).mono (Nat.zero_le 1) (Nat.le_refl _)) (.cons ((Ni.num h.lv).mono (Nat.zero_le 1) (Nat.le_refl _)) (.cons ((Ni.num h.wt).mono (Nat.zero_le 1) (Nat.le_refl _)) (.cons ((Ni.num h.tk).mono (Nat.zero_le 1) (Nat.le_refl _)) (.cons ((Ni.num h.lt).mono (Nat.zero_le 1) (Nat.le_refl _)) (NiA.nil.mono (Nat.zero_le _) (Nat.le_refl _))))))))))).mono (by decide) (by decide)
theorem Ni.plot {p : Int × Int × Int} (h : OkPlot p) : Ni 1 3 (plotD p) := (Ni.tup (.cons (Ni.int h.1) (.cons (Ni.int h.2.1) (.cons (Ni.int h.2.2) NiA.nil)))).mono (by decide) (by decide)
theorem NiA.map {α : Type} {n m k : Nat} {f : α → PyData} {xs : List α} (h : ∀ x ∈ xs, Ni n m (f x)) (l : xs.length ≤ k) : NiA n (k * (m + 1)) (xs.map f) := (NiA.all fun d hd => by
  obtain ⟨x, hx, rfl⟩ := List.mem_map.mp hd
  exact h x hx).mono (Nat.le_refl _) (Nat.mul_le_mul_right _ (by rw [List.length_map]; exact l))
theorem Ni.up {m : Nat} {d : PyData} (n : Nat) (h : Ni 0 m d) : Ni n m d := h.mono (Nat.zero_le _) (Nat.le_refl _)
theorem NiA.one {n m : Nat} {d : PyData} (h : Ni n m d) : NiA n (m + 1) [d] := NiA.cons h (NiA.nil.mono (Nat.zero_le _) (Nat.le_refl _))
def keyB (x : Str) : Bool := (tl x).all (fun c => Nat.blt c 1000) && Nat.ble x.length 10
theorem keyB_ok {x : Str} (h : keyB x = true) : (∀ c ∈ tl x, c < 1000) ∧ x.length ≤ 10 := by
  unfold keyB at h
  rw [Bool.and_eq_true, List.all_eq_true] at h
  exact ⟨fun c hc => Nat.blt_eq.mp (h.1 c hc), Nat.ble_eq.mp h.2⟩
theorem key_ok (c : Cal) : (∀ x ∈ tl c.key, x < 1000) ∧ c.key.length ≤ 10 := by cases c <;> exact keyB_ok rfl
theorem Ni.cal {c : Cal} (h : OkCal c) : Ni 5 400 c.d := by
  have hk : Ni 4 10 (.str c.key) := (Ni.str (key_ok c).1 (key_ok c).2).up 4
  have q : NiA 4 380 c.parts := by
    cases c with
    | enter rs => exact (NiA.one (Ni.lst (NiA.map (fun r hr => Ni.req (h.2.2 r hr)) h.2.1))).mono (by decide) (by decide)
    | say b f c t => exact (NiA.cons ((Ni.name h.1).up 2) (.cons ((Ni.name h.2.1).up 2) (.cons (Ni.chg h.2.2.1) (.one ((Ni.num h.2.2.2).up 2))))).mono (by decide) (by decide)
    | solve b f cs t => exact (NiA.cons ((Ni.name h.1).up 3) (.cons ((Ni.name h.2.1).up 3) (.cons (Ni.lst (NiA.map (fun r hr => Ni.chg (h.2.2.2.1 r hr)) h.2.2.1)) (.one ((Ni.num h.2.2.2.2).up 3))))).mono (by decide) (by decide)
    | hear m => exact (NiA.one (Ni.msg h)).mono (by decide) (by decide)
    | give a b c => exact (NiA.cons ((Ni.name h.1).up 0) (.cons ((Ni.name h.2.1).up 0) (.one ((Ni.name h.2.2).up 0)))).mono (by decide) (by decide)
    | pass f k n s r => exact (NiA.cons ((Ni.name h.1).up 1) (.one (Ni.tup (.cons (Ni.str (x := if k then "took" else "give") (by cases k <;> decide) (by cases k <;> decide)) (.cons (Ni.num h.2.1) (.cons (Ni.name h.2.2.1) (.one (Ni.name h.2.2.2)))))))).mono (by decide) (by decide)
    | adv ps => exact (NiA.one (Ni.lst (NiA.map (fun r hr => Ni.plot (h.2 r hr)) h.1))).mono (by decide) (by decide)
  exact (Ni.tup (.cons hk q)).mono (by decide) (by decide)
theorem Ni.cals {cs : List Cal} (h : ∀ c ∈ cs, OkCal c) (l : cs.length ≤ 10) : Ni 6 5000 (.list (cs.map Cal.d)) := (Ni.lst (NiA.map (fun c hc => Ni.cal (h c hc)) l)).mono (by decide) (by decide)
theorem Ni.fits {n m : Nat} {d : PyData} (h : Ni n m d) (hm : m ≤ 2 ^ 20) : d.shown.length ≤ sizeLine := PyData.shown_fits_bulk (B := 12) (by decide) (by decide) h.ls (Nat.le_trans h.bk hm)
section
variable {X : Cx}
/-- repr of data that stand in the heap -/
theorem call_reprD (hg : X.A.guards = some []) (hu : X.A.units + 64 < cLine) : CallR X (.builtin "repr") (fun xs H Q => ∃ a d, xs = [.ref a] ∧ Dp X.K H (.ref a) d ∧ Ni 6 5000 d ∧ Q (.str d.shown) H) := by
  intro pins s σ H xs us Q I r h
  obtain ⟨a, d, rfl, hd, hn, q⟩ := h
  cases r with
  | cons r1 r2 =>
    cases r2
    obtain ⟨as, rr⟩ := Dp.reads I d _ _ hd r1
    obtain rfl := r1
    refine repr_of_reads' rr hn.sh (PyData.noDict_hsm hn.nd) hg (by have := hn.dp; omega) (fun _ _ e => e) (fun h' u tk hk => ⟨.str d.shown, H, I.kept hk, ⟨_, rfl⟩, q⟩) (hn.fits (by decide))
end
end K31
/-! K31, part 25: the texts of journals, whole, cut, with one bad line; no program in sight. -/
namespace K31
open PySem PySem.Spec PyProof.Rows L2 GxR
open TL (tl)
/-- the signs of rows, each with its end -/
def rows (L : List Str) : List Nat := (L.map fun l => tl l ++ [10]).flatten
def rowT (L : List Str) : Str := Txt.join Str.empty (L.map fun l => l ++ nl)
theorem rows_cons (l : Str) (L : List Str) : rows (l :: L) = tl l ++ (10 :: rows L) := by
  show (tl l ++ [10]) ++ rows L = _
  rw [List.append_assoc]
  rfl
theorem tl_rowT (L : List Str) : tl (rowT L) = rows L := by
  unfold rowT rows
  rw [tl_cat, List.map_map]
  congr 1
  refine List.map_congr_left fun l _ => ?_
  show tl (l ++ nl) = _
  rw [TL.tl_append, tl_nl]
theorem rows_join : ∀ (L : List Str) (x : Str), TL.joinL [10] ((L ++ [x]).map tl) = rows L ++ tl x
  | [], x => rfl
  | [l], x => by
    rw [rows_cons]
    show tl l ++ ([10] ++ tl x) = _
    rw [List.append_assoc]
    rfl
  | l :: k :: L, x => by
    have e := rows_join (k :: L) x
    show tl l ++ ([10] ++ TL.joinL [10] ((k :: L ++ [x]).map tl)) = _
    rw [e, rows_cons l, List.append_assoc]
    rfl
theorem rows_split {x : Str} {L : List Str} {last : Str} (e : tl x = rows L ++ tl last) (h : ∀ l ∈ L, 10 ∉ tl l) (h2 : 10 ∉ tl last) : Txt.split x nl = L ++ [last] := by
  have ex : x = Txt.join nl (L ++ [last]) := TL.ext_tl (by rw [e, TL.join_eq, TL.tl_join, tl_nl, rows_join])
  rw [ex]
  refine TL.split_join tl_nl (by decide +kernel) (by simp) fun p hp => ?_
  rcases List.mem_append.mp hp with z | z
  · exact h p z
  · rw [List.mem_singleton.mp z]
    exact h2
theorem nl_mk : nl = ⟨#[10]⟩ := TL.ext_tl tl_nl
theorem rows_count {x : Str} {L : List Str} {last : Str} (e : tl x = rows L ++ tl last) (h : ∀ l ∈ L, 10 ∉ tl l) (h2 : 10 ∉ tl last) : Txt.count x nl = (L.length : Int) := by
  have s := rows_split e h h2
  have q := split_len x 10
  rw [nl_mk] at s
  rw [nl_mk, count_cnt]
  rw [s, List.length_append] at q
  push_cast at q
  simp only [List.length_cons, List.length_nil] at q
  omega
theorem rows_cut : ∀ (L : List Str) (n : Nat), (∀ l ∈ L, 10 ∉ tl l) → ∃ (m : Nat) (last : Str), m ≤ L.length ∧ 10 ∉ tl last ∧ (rows L).take n = rows (L.take m) ++ tl last
  | [], n, _ => ⟨0, Str.empty, Nat.le_refl _, List.not_mem_nil, by rw [show rows [] = [] from rfl, List.take_nil] <;> rfl⟩
  | l :: L, n, h => by
    have h1 := h l (List.mem_cons_self ..)
    rw [rows_cons]
    by_cases z : n ≤ (tl l).length
    · refine ⟨0, ⟨((tl l).take n).toArray⟩, Nat.zero_le _, fun m => h1 (List.mem_of_mem_take m), ?_⟩
      rw [List.take_append_of_le_length z]
      rfl
    · obtain ⟨k, rfl⟩ : ∃ k, n = (tl l).length + (k + 1) := ⟨n - (tl l).length - 1, by omega⟩
      obtain ⟨m, last, hm, h2, e⟩ := rows_cut L k fun x hx => h x (List.mem_cons_of_mem _ hx)
      refine ⟨m + 1, last, Nat.succ_le_succ hm, h2, ?_⟩
      rw [List.take_length_add_append, List.take_succ_cons, e, List.take_succ_cons, rows_cons, List.append_assoc]
      rfl
/-! ### a journal's text -/
theorem jrow_lns : ∀ (cs : List Cal) (k : Nat), jrow k cs = (lns k cs).map fun l => l ++ nl
  | [], _ => rfl
  | c :: r, k => by
    show (lineT k c ++ nl) :: jrow (k + 1) r = (lineT k c ++ nl) :: (lns (k + 1) r).map _
    rw [jrow_lns r (k + 1)]
theorem jTx_rowT (cs : List Cal) : jTx cs = rowT (lns 0 cs) := by
  unfold jTx rowT
  rw [jrow_lns]
theorem lns_take : ∀ (cs : List Cal) (k m : Nat), (lns k cs).take m = lns k (cs.take m)
  | [], _, m => by rw [List.take_nil]; show ([] : List Str).take m = []; rw [List.take_nil]
  | c :: r, k, 0 => rfl
  | c :: r, k, m + 1 => by
    show lineT k c :: (lns (k + 1) r).take m = lineT k c :: lns (k + 1) (r.take m)
    rw [lns_take r (k + 1) m]
theorem no10w {w : Str} (h : ∀ c ∈ tl w, Sg c) : 10 ∉ tl w := fun m => by
  have := h 10 m
  unfold Sg at this
  omega
theorem no10c {c : Cal} (h : OkCal c) : 10 ∉ tl (cTx c) := fun m => by
  rcases cTx_sg h 10 m with z | z
  · omega
  · unfold Sg at z
    omega
theorem no10app {a b : Str} (h : 10 ∉ tl a) (h2 : 10 ∉ tl b) : 10 ∉ tl (a ++ b) := by
  rw [TL.tl_append, List.mem_append]
  exact fun z => z.elim h h2
theorem no10b : 10 ∉ tl bk := by rw [tl_bk]; decide
theorem no10x {n m : Int} {x : Str} (hn : OkNum n) (hm : OkNum m) (hx : 10 ∉ tl x) : 10 ∉ tl (lineX n m x) :=
  no10app (no10app (no10w (num_clean hn).sg) no10b) (no10app (no10app (no10w (num_clean hm).sg) no10b) hx)
theorem no10l {n : Nat} (hn : n < 1000) {c : Cal} (h : OkCal c) : 10 ∉ tl (lineT n c) := no10x (nat_num hn) (tsum_ok _) (no10c h)
theorem lns_all {P : Str → Prop} : ∀ {cs : List Cal} {k : Nat}, (∀ c ∈ cs, OkCal c) → k + cs.length ≤ 1000 → (∀ n c, n < 1000 → OkCal c → P (lineT n c)) → ∀ l ∈ lns k cs, P l
  | [], _, _, _, _ => fun l hl => by cases hl
  | c :: r, k, h, hk, q => by
    rw [List.length_cons] at hk
    exact all_cons (q _ _ (by omega) (h c (List.mem_cons_self ..))) (lns_all (cs := r) (k := k + 1) (fun x hx => h x (List.mem_cons_of_mem _ hx)) (by omega) q)
theorem lns_no10 {cs : List Cal} {k : Nat} (h : ∀ c ∈ cs, OkCal c) (hk : k + cs.length ≤ 1000) : ∀ l ∈ lns k cs, 10 ∉ tl l := lns_all h hk fun _ _ a b => no10l a b
theorem rowT_len {L : List Str} {k : Nat} (h : ∀ l ∈ L, l.length ≤ k) : (rowT L).length ≤ (k + 1) * L.length := by
  rw [TL.len_tl, tl_rowT]
  induction L with
  | nil => exact Nat.zero_le _
  | cons l L ih =>
    have h1 := h l (List.mem_cons_self ..)
    have h2 := ih fun x hx => h x (List.mem_cons_of_mem _ hx)
    rw [rows_cons, List.length_append, List.length_cons, List.length_cons, Nat.mul_add, ← TL.len_tl]
    omega
theorem jTx_len {cs : List Cal} (h : ∀ c ∈ cs, OkCal c) (hl : cs.length ≤ 10) : (jTx cs).length ≤ 7250 := by
  have q := rowT_len (L := lns 0 cs) (k := 724) (lns_all h (by omega) fun _ _ a b => lineT_len a b)
  rw [jTx_rowT]
  rw [lns_len] at q
  omega
/-- whole -/
theorem jTx_split {cs : List Cal} (h : ∀ c ∈ cs, OkCal c) (hl : cs.length ≤ 10) : Txt.split (jTx cs) nl = lns 0 cs ++ [] ++ [Str.empty] := by
  rw [List.append_nil]
  refine rows_split ?_ (lns_no10 h (by omega)) List.not_mem_nil
  rw [jTx_rowT, tl_rowT, tl_empty, List.append_nil]
/-- cut -/
theorem jTx_cut {cs : List Cal} (h : ∀ c ∈ cs, OkCal c) (hl : cs.length ≤ 10) {x : Str} {n : Nat} (e : tl x = (tl (jTx cs)).take n) :
    ∃ (m : Nat) (last : Str), m ≤ cs.length ∧ Txt.split x nl = lns 0 (cs.take m) ++ [] ++ [last] ∧ Txt.count x nl = (m : Int) := by
  have hno := lns_no10 (k := 0) h (by omega)
  obtain ⟨m, last, hm, h2, q⟩ := rows_cut (lns 0 cs) n hno
  rw [lns_len] at hm
  rw [jTx_rowT, tl_rowT, q] at e
  have hno2 : ∀ l ∈ (lns 0 cs).take m, 10 ∉ tl l := fun l hl => hno l (List.mem_of_mem_take hl)
  refine ⟨m, last, hm, ?_, ?_⟩
  · rw [List.append_nil, ← lns_take]
    exact rows_split e hno2 h2
  · rw [rows_count e hno2 h2, List.length_take, lns_len, Nat.min_eq_left hm]
/-! ### bad lines -/
def badT (k n : Nat) (c : Cal) : Str :=
  match k with
  | 0 => lineT (n + 1) c
  | 1 => lineX (n : Int) ((tsum (cTx c) + 1) % 9973) (cTx c)
  | 2 => lineX (n : Int) (tsum (cTx c ++ bk)) (cTx c ++ bk)
  | 3 => "0" ++ lineT n c
  | _ => cTx c
theorem lineT_bad {n m : Nat} (hm : m < 1000) (h : m ≠ n) (c : Cal) : BadL n (lineT m c) :=
  .inl ⟨sI (m : Int), sI (tsum (cTx c)) ++ bk ++ cTx c, no32n (nat_num hm), sI_ne h, .inl rfl⟩
theorem sum_next (x : Str) : OkNum ((tsum x + 1) % 9973) ∧ (tsum x + 1) % 9973 ≠ tsum x := by
  have h := tsum_lt x
  exact ⟨⟨by omega, by omega⟩, by omega⟩
theorem word_no (c : Cal) : 32 ∉ tl c.word ∧ ∀ x ∈ tl c.word, 65 ≤ x := by
  have : ∀ w : Str, ((tl w).all fun x => Nat.ble 65 x) = true → 32 ∉ tl w ∧ ∀ x ∈ tl w, 65 ≤ x := fun w h => by
    have q : ∀ x ∈ tl w, 65 ≤ x := fun x hx => Nat.ble_eq.mp (List.all_eq_true.mp h x hx)
    exact ⟨fun m => absurd (q 32 m) (by decide), q⟩
  refine this _ ?_
  cases c <;> rfl
theorem word_ne (c : Cal) {n : Nat} (hn : n < 1000) : c.word ≠ sI (n : Int) := fun e => by
  have h1 := (word_no c).2
  rw [e] at h1
  have hd : ∀ x ∈ tl (sI (n : Int)), x ≤ 57 := fun x hx => by
    rw [sI_nat] at hx
    by_cases z : x ≤ 57
    · exact z
    · exact absurd hx (TL.numL_free (.inr (by omega)))
  have hl := (num_len (nat_num hn)).1
  rw [TL.len_tl] at hl
  cases q : tl (sI (n : Int)) with
  | nil =>
    rw [q] at hl
    exact absurd hl (by decide)
  | cons x r =>
    have m : x ∈ tl (sI (n : Int)) := by rw [q]; exact List.mem_cons_self ..
    have := h1 x m
    have := hd x m
    omega
theorem bad_ok {k n : Nat} {c : Cal} (hn : n < 900) (h : OkCal c) : BadL n (badT k n c) ∧ 10 ∉ tl (badT k n c) ∧ (badT k n c).length ≤ 1000 := by
  have hl := cTx_len h
  have hn2 := nat_num (n := n) (by omega)
  match k with
  | 0 => exact ⟨lineT_bad (by omega) (by omega) c, no10l (by omega) h, Nat.le_trans (lineT_len (by omega) h) (by decide)⟩
  | 1 =>
    obtain ⟨a, b⟩ := sum_next (cTx c)
    refine ⟨.inr (.inl ⟨_, _, rfl, a, b⟩), no10x hn2 a (no10c h), ?_⟩
    have := lineX_len (n := n) (by omega) a (x := cTx c)
    show (lineX (n : Int) ((tsum (cTx c) + 1) % 9973) (cTx c)).length ≤ 1000
    omega
  | 2 =>
    refine ⟨.inr (.inr ⟨c, h, rfl⟩), no10x hn2 (tsum_ok _) (no10app (no10c h) no10b), ?_⟩
    have := lineX_len (n := n) (by omega) (tsum_ok (cTx c ++ bk)) (x := cTx c ++ bk)
    show (lineX (n : Int) (tsum (cTx c ++ bk)) (cTx c ++ bk)).length ≤ 1000
    rw [len_app, bk_len] at this
    omega
  | 3 =>
    have e : badT 3 n c = ("0" ++ sI (n : Int)) ++ bk ++ (sI (tsum (cTx c)) ++ bk ++ cTx c) := by
      show "0" ++ (sI (n : Int) ++ bk ++ (sI (tsum (cTx c)) ++ bk ++ cTx c)) = _
      simp only [app_assoc]
    have t0 : tl ("0" : Str) = [48] := by decide +kernel
    refine ⟨.inl ⟨"0" ++ sI (n : Int), sI (tsum (cTx c)) ++ bk ++ cTx c, ?_, fun z => ?_, .inl e⟩, no10app (by rw [t0]; decide) (no10l (by omega) h), ?_⟩
    · rw [TL.tl_append, t0]
      intro m
      rcases List.mem_append.mp m with z | z
      · exact absurd z (by decide)
      · exact no32n hn2 z
    · have q := congrArg (fun s : Str => (tl s).length) z
      simp only [TL.tl_append, t0, List.length_append, List.length_cons, List.length_nil] at q
      omega
    · have := lineT_len (n := n) (by omega) h
      show ("0" ++ lineT n c).length ≤ 1000
      rw [len_app, show ("0" : Str).length = 1 from rfl]
      omega
  | k + 4 =>
    refine ⟨.inl ?_, no10c h, Nat.le_trans hl (by decide)⟩
    show ∃ h r, 32 ∉ tl h ∧ h ≠ sI (n : Int) ∧ (cTx c = h ++ bk ++ r ∨ (cTx c = h ∧ r = Str.empty))
    by_cases z : c.args = []
    · refine ⟨c.word, Str.empty, (word_no c).1, word_ne c (by omega), .inr ⟨?_, rfl⟩⟩
      show sp (c.word :: c.args) = c.word
      rw [z, sp_one]
    · exact ⟨c.word, sp c.args, (word_no c).1, word_ne c (by omega), .inl (sp_cons' z)⟩
/-- with one bad line -/
theorem jTx_bad {cs : List Cal} (h : ∀ c ∈ cs, OkCal c) (hl : cs.length ≤ 10) {n : Nat} {b : Str} (hn : n < cs.length) (hb : 10 ∉ tl b) :
    Txt.split (rowT ((lns 0 cs).set n b)) nl = lns 0 (cs.take n) ++ (b :: (lns 0 cs).drop (n + 1)) ++ [Str.empty] := by
  have hno := lns_no10 (k := 0) h (by omega)
  have e : (lns 0 cs).set n b = lns 0 (cs.take n) ++ (b :: (lns 0 cs).drop (n + 1)) := by
    rw [← lns_take]
    exact List.set_eq_take_append_cons_drop .. |>.trans (by rw [if_pos (by rw [lns_len]; exact hn)])
  rw [← e]
  refine rows_split (by rw [tl_rowT, tl_empty, List.append_nil]) (fun l hl => ?_) List.not_mem_nil
  rcases List.mem_or_eq_of_mem_set hl with z | z
  · exact hno l z
  · rw [z]
    exact hb
end K31
/-! K31, the law's defs 7: the law's end: one line is made bad. -/
namespace K31
open PySem PySem.Spec PyProof.Rows L2 GxR
open PySem.W (Frag)
open TL (tl)
/-- what the law calls -/
structure Lw (w : World) (K : Frag) (mg : Str → Option Value) (base : Heap) (a : Ad) : Prop where
  start : Dn Pg w K mg base CX0 3 "_law_start" ["_law_script"] (spStart K)
  draw : Dn Pg w K mg base CX0 3 "_law_draw" ["_law_state", "_law_bound"] spDraw
  call : Dn Pg w K mg base CX0 15 "_law_call" ["_law_state"] (spLCall K)
  line : Dn Pg w K mg base CX0 12 "_law_line" ["_law_number_here", "_law_call_here"] (spLineW K)
  ws : Dn Pg w K mg base CX0 10 "_law_call_words" ["_law_call_here"] (spCalW K)
  sum : Dn Pg w K mg base CX0 3 "_law_sum" ["_law_text"] spSumW
  jour : Dn Pg w K mg base CX0 17 "journal_text" ["log"] (spJour a K)
  rdj : Dn Pg w K mg base CX0 30 "read_journal" ["text"] (spRdJ a K)
  lof : Dn Pg w K mg base CX0 15 "line_of" ["number", "call"] (spLineOf a K)
  rdl : Dn Pg w K mg base CX0 25 "read_line" ["number", "line"] (spRdLine a K)
  ts : Dn Pg w K mg base CX0 4 "text_sum" ["text"] (spTsum a.p3)
/-- the log at p, its lines at q -/
structure LJ (a : Ad) (K : Frag) (G : Hp) (d c p q : Addr) (cs : List Cal) : Prop where
  st : St0 G d c
  lg : Dp K G (.ref p) (.list (cs.map Cal.d))
  ln : G q = some (.lst ((lns 0 cs).map V.str))
  tb : Tb a G
section
variable {a : Ad} {w : World} {K : Frag} {mg : Str → Option Value} {base : Heap} {G G' : Hp} {d c p q : Addr} {cs : List Cal}
theorem LJ.x0 (h : LJ a K G d c p q cs) (x : X0 G G') : LJ a K G' d c p q cs := ⟨h.st.x0 x, x.dp0 h.lg, x.keep _ _ h.ln id (fun _ z => by cases z), x.tb h.tb⟩
theorem LJ.x1 (h : LJ a K G d c p q cs) (x : X1 d G G') (s : St0 G' d c) : LJ a K G' d c p q cs := ⟨s, x.dp h.st.ns h.lg, x.seq h.st.ns h.ln rfl, x.tb h.tb⟩
theorem lg_at (h : Dp K G (.ref p) (.list (cs.map Cal.d))) {n : Nat} {c0 : Cal} (e : cs[n]? = some c0) : ∃ xs v, SqL K G p xs ∧ atI xs (n : Int) = some v ∧ Dp K G v c0.d := by
  obtain ⟨l, xs, e1, h1, h2⟩ := dp_lst h
  cases e1
  obtain ⟨v, hv, hd⟩ := dpa_at h2 (i := n) (d := c0.d) (by rw [List.getElem?_map, e] <;> rfl)
  exact ⟨xs, v, h1, atI_nat hv, hd⟩
/-- the first n calls of the log, a new list -/
theorem lg_cut {n : Nat} {o : Addr} (h : Dp K G (.ref p) (.list (cs.map Cal.d))) : ∃ xs, SqL K G p xs ∧ ∀ o, G o = none → Dp K (upd G o (.lst (cutV xs none (some (n : Int))))) (.ref o) (.list ((cs.take n).map Cal.d)) := by
  obtain ⟨l, xs, e1, h1, h2⟩ := dp_lst h
  cases e1
  refine ⟨xs, h1, fun o no => dp_newL upd_same ?_⟩
  have e : cutV xs none (some (n : Int)) = xs.take n := by
    unfold cutV
    rw [HT.sIx_none, HT.sIx_nat, Nat.sub_zero, List.drop_zero]
    by_cases z : n ≤ xs.length
    · rw [Nat.min_eq_left z]
    · rw [Nat.min_eq_right (by omega), List.take_of_length_le (Nat.le_refl _), List.take_of_length_le (by omega)]
  rw [e, List.map_take]
  exact (Ext.new no : X0 _ _).dpAll0 (dpa_take n h2)
/-- texts from a list of lines, each with its end -/
abbrev nLaw : List Str := ["_law_script", "_law_state", "_law_log", "_law_kept", "_law_lines", "_law_text", "_law_cut", "_law_at", "_law_told", "_law_kind", "_law_bad", "_law_k", "_law_line_here"]
abbrev rJoin (K : Frag) : V → List V → Hp → VK → Prop := fun x xs H Q => ∃ a p, ∃ ys : List Str, x = .str a ∧ xs = [.ref p] ∧ (SqL K H p (ys.map V.str) ∨ SqT K H p (ys.map V.str)) ∧ (ys.map (·.length)).sum + ys.length * a.length ≤ 16777216 ∧ Q (.str (Txt.join a ys)) H
abbrev rCat : R2 := fun x y H Q => ∃ i j, x = .str i ∧ y = .str j ∧ i.length + j.length ≤ sizeLine ∧ Q (.str (i ++ j)) H
theorem lc_rows {b : Addr} {L : List Str} {i j : Nat} (hb : G b = some (.lst (L.map V.str))) (hL : ∀ l ∈ L, l.length ≤ 1000) (hn : L.length ≤ 10) {σ : L2.St} (hi : σ[i]? = some (some (.ref b))) (hj : j < σ.length) {Q : V → Hp → Prop} (hQ : ∀ H', X0 G H' → Q (.str (rowT L)) H') :
    tM1 (rJoin K) (tC (.str Str.empty)) (tLc (iList K (tVar i)) (gName j) tYes (tOp rCat (tVar j) (tC (.str nl))) [j]) σ G Q := by
  have hno : ∀ l ∈ L.map V.str, ∃ z, l = V.str z := fun l hl => by
    obtain ⟨z, _, e⟩ := List.mem_map.mp hl
    exact ⟨z, e.symm⟩
  refine ⟨⟨_, rfl⟩, _, hi, b, rfl, ⟨_, SqL.of hb⟩, fun D nD => lc_list (fun k H => X0 G H ∧ H b = some (.lst (L.map V.str)) ∧ H D = some (.lst ((L.take k).map fun l => V.str (l ++ nl)))) ⟨Ext.new nD, by rw [upd_ne (ne_of_none hb nD)]; exact hb, upd_same⟩ (fun k H _ h => SqL.of h.2.1) (fun k x H hx h => ?_) fun H h => ?_⟩
  · obtain ⟨x0, h1, h2⟩ := h
    rw [List.getElem?_map] at hx
    obtain ⟨l, hl, rfl⟩ := Option.map_eq_some_iff.mp hx
    have ll := hL l (List.mem_of_getElem? hl)
    refine ⟨?_, V.str l, ?_, l, nl, rfl, rfl, szl (by rw [nl_len]; omega), _, h2, small1000 (by rw [List.length_map, List.length_take]; omega), Ext.ownL x0 nD h2, ?_, ?_⟩
    · show ((σ.set j none).set j (some (V.str l))).set j none = σ.set j none
      rw [List.set_set, List.set_set]
    · show ((σ.set j none).set j (some (V.str l)))[j]? = _
      rw [List.set_set, List.getElem?_set_self hj]
    · rw [upd_ne (ne_of_none hb nD)]
      exact h1
    · rw [upd_same, take_succ hl, List.map_append]
      rfl
  · obtain ⟨x0, h1, h2⟩ := h
    rw [List.length_map, List.take_length] at h2
    refine ⟨Str.empty, D, L.map fun l => l ++ nl, rfl, rfl, .inl ?_, ?_, hQ H x0⟩
    · rw [List.map_map]
      exact SqL.of h2
    · exact join_ok (k := 1001) (n := 10) (fun w hw => by
        obtain ⟨l, hl, rfl⟩ := List.mem_map.mp hw
        rw [len_app, nl_len]
        have := hL l hl
        omega) (by rw [List.length_map]; exact hn) (by decide +kernel)

section
variable {f : Addr} {cdv : Value} {A : Around} {outer : List Env} {s : Shared} {H : Hp} {E : XK}
abbrev XL (w : World) (K : Frag) (mg : Str → Option Value) (base : Heap) (f : Addr) (cdv : Value) (A : Around) (outer : List Env) (s : Shared) (H : Hp) (E : XK) : Cx := (cxOf CX0 Pg w K mg base nLaw "law" (defScope s_law) f cdv A outer s H E).nox
/-- read_line of the bad line, the journal that has it -/
theorem law_d (T : TT a K mg base) (L : Lw w K mg base a) (hr : Room 31 (XL w K mg base f cdv A outer s H E).A) (hg : (XL w K mg base f cdv A outer s H E).A.guards = some []) :
    ∃ t, PSs (XL w K mg base f cdv A outer s H E) (List.drop 20 (defBody s_law)) t ∧ ∀ (Q : VK) (G : Hp) (d c p q b : Addr) (cs : List Cal) (n : Nat) (bt : Str) (v0 v3 v5 v6 v8 v9 v11 v12 : Option V), LJ a K G d c p q cs → (∀ c ∈ cs, OkCal c) → cs.length ≤ 8 → n < cs.length →
      G b = some (.lst (((lns 0 cs).set n bt).map V.str)) → BadL n bt → 10 ∉ tl bt → bt.length ≤ 1000 → (∀ H', Q (.bl true) H') →
      t { nx := fun _ H' => Q .non H', rt := Q } [v0, some (.ref d), some (.ref p), v3, some (.ref q), v5, v6, some (.int (n : Int)), v8, v9, some (.ref b), v11, v12] G := by
  have nd := sc_law.nd
  have hu := hr.units
  refine ⟨_, pss_cons (ps_if (pt_cmpR op_notN (pe_df L.rdl (hr.mono (by decide)) (pa_cons (pv 7) (pa_cons (pe_ix ix_list (pv 10) (pv 7) (fun _ _ => rfl)) pa_nil))) pe_non (nomark _)) (pss_one (ps_ret pe_bl)) pss_nil)
    (pss_one (ps_ret (pe_cmpR op_eq (pe_callB (call_reprD hg hu) (by rfl) (T.no "repr") (by decide +kernel) (pa_cons (pe_df L.rdj (hr.mono (by decide)) (pa_cons (pe_join pe_str
        (pe_lc (own := [("_law_line_here", 12)]) (g := gName 12) (tt := tYes) (by rfl) nd (pi_list (pv 10)) (blkOk_by (own := [("_law_line_here", 12)]) (N := nLaw) (sc := defScope s_law) (by decide +kernel)) (fun _ _ _ _ _ => pg_name (i := 12) nd rfl (.inl rfl)) (fun _ _ _ _ _ => pts_nil) (fun _ _ _ _ _ => pe_op op_add_str (pv 12) pe_str))) pa_nil)) pa_nil))
      (pe_callB (call_reprD hg hu) (by rfl) (T.no "repr") (by decide +kernel) (pa_cons (pe_slice sl_list (pv 2) po_none (po_some (pv 7))) pa_nil)) (nomark _)))), ?_⟩
  intro Q G d c p q b cs n bt v0 v3 v5 v6 v8 v9 v11 v12 J hc hl hn hb hB h10 hbl k
  have hbn : ((lns 0 cs).set n bt)[n]? = some bt := List.getElem?_set_self (by rw [lns_len]; exact hn)
  have hcs : ∀ l ∈ (lns 0 cs).set n bt, l.length ≤ 1000 := fun l hl' => by
    rcases List.mem_or_eq_of_mem_set hl' with z | z
    · exact lns_all (P := fun l => l.length ≤ 1000) hc (by omega) (fun m x hm hx => Nat.le_trans (lineT_len hm hx) (by decide)) l z
    · rw [z]
      exact hbl
  have hlen : ((lns 0 cs).set n bt).length = cs.length := by rw [List.length_set, lns_len]
  refine ⟨_, rfl, _, rfl, _, rfl, b, _, _, _, rfl, rfl, SqL.of hb, atI_nat (j := n) (by rw [List.getElem?_map, hbn] <;> rfl), n, bt, rfl, by omega, by omega, J.tb, .inr ⟨hB, fun G1 x1 => ⟨rfl, _, rfl, if_f rfl ?_⟩⟩⟩
  have hb1 := x1.keep b _ hb id fun _ z => by cases z
  delta tNext tRet tOp tCB tCons tCall
  dsimp only
  refine lc_rows (i := 10) (j := 12) (σ := [v0, some (.ref d), some (.ref p), v3, some (.ref q), v5, v6, some (.int (n : Int)), v8, v9, some (.ref b), v11, v12]) hb1 hcs (by omega) rfl (by show 12 < 13; decide) fun G2 x2 => ?_
  have J2 := (J.x0 x1).x0 x2
  have hsp := jTx_bad hc (by omega) hn h10
  have hrl : (rowT ((lns 0 cs).set n bt)).length ≤ 1000000 := by
    have := rowT_len hcs
    omega
  have hg2 : ∀ c ∈ cs.take n, OkCal c := fun c h => hc c (List.mem_of_mem_take h)
  have hl2 : (cs.take n).length = n := by rw [List.length_take]; omega
  refine ⟨_, cs.take n, _, _, rfl, hrl, hsp, hg2, by omega, .inr ⟨bt, _, rfl, by rw [hl2]; exact hB, by omega⟩, J2.tb, fun v G3 x3 hd => ?_⟩
  obtain ⟨l, xs, rfl, _, _⟩ := dp_lst hd
  refine ⟨l, _, rfl, hd, Ni.cals hg2 (by omega), ?_⟩
  have J3 := J2.x0 x3
  obtain ⟨ys, hy, hcut⟩ := lg_cut (n := n) (o := l) J3.lg
  refine ⟨_, rfl, _, rfl, _, rfl, p, ys, rfl, hy, fun o no => ?_⟩
  refine ⟨o, _, rfl, hcut o no, Ni.cals hg2 (by omega), rfl, ?_⟩
  show Q (.bl (decide (V.str _ = V.str _))) _
  rw [decide_eq_true rfl]
  exact k _
end
end
end K31
/-! K31, the law's defs 8: how one line is made bad. -/
namespace K31
open PySem PySem.Spec PyProof.Rows L2 GxR
open PySem.W (Frag)
open TL (tl)
theorem ixN_nat {n m : Nat} (h : n < m) : ixN m (n : Int) = some n := by
  unfold ixN
  rw [if_pos (by omega), if_pos (by omega)]
  rfl
section
variable {a : Ad} {w : World} {K : Frag} {mg : Str → Option Value} {base : Heap}
variable {f : Addr} {cdv : Value} {A : Around} {outer : List Env} {s : Shared} {H : Hp} {E : XK}
theorem law_c (T : TT a K mg base) (L : Lw w K mg base a) (hr : Room 31 (XL w K mg base f cdv A outer s H E).A) (hg : (XL w K mg base f cdv A outer s H E).A.guards = some []) :
    ∃ t, PSs (XL w K mg base f cdv A outer s H E) (List.drop 13 (defBody s_law)) t ∧ ∀ (Q : VK) (G : Hp) (d c p q : Addr) (cs : List Cal) (n : Nat) (c0 : Cal) (v0 v3 v5 v6 v9 v10 v11 v12 : Option V), LJ a K G d c p q cs → (∀ c ∈ cs, OkCal c) → cs.length ≤ 8 → cs[n]? = some c0 →
      (∀ H', Q (.bl true) H') →
      t { nx := fun _ H' => Q .non H', rt := Q } [v0, some (.ref d), some (.ref p), v3, some (.ref q), v5, v6, some (.int (n : Int)), some (.str (cTx c0)), v9, v10, v11, v12] G := by
  have nd := sc_law.nd
  obtain ⟨tr, h1, h2⟩ := law_d (f := f) (cdv := cdv) (outer := outer) (s := s) (H := H) (E := E) T L hr hg
  refine ⟨_, pss_cons (ps_set (i := 9) nd rfl (.inl rfl) (pe_df L.draw (hr.mono (by decide)) (pa_cons (pv 1) (pa_cons pe_int pa_nil))))
    (pss_cons (ps_set (i := 10) nd rfl (.inl rfl) (pe_callTy call_list_of (by rfl) (T.no "list") (by decide +kernel) (pa_cons (pv 4) pa_nil)))
    (pss_cons (ps_if (pt_cmpR op_eq (pv 9) pe_int (nomark _)) (pss_one (ps_asg (pe_df L.line (hr.mono (by decide)) (pa_cons (pe_op op_add (pv 7) pe_int) (pa_cons (pe_ix ix_list (pv 2) (pv 7) (fun _ _ => rfl)) pa_nil))) (pg_sub (pv 10) (pv 7) set_list))) pss_nil)
    (pss_cons (ps_if (pt_cmpR op_eq (pv 9) pe_int (nomark _)) (pss_one (ps_asg (pe_op op_add_str (pe_op op_add_str (pe_op op_add_str (pe_op op_add_str (pe_callTy call_str_int (by rfl) (T.no "str") (by decide +kernel) (pa_cons (pv 7) pa_nil)) pe_str)
        (pe_callTy call_str_int (by rfl) (T.no "str") (by decide +kernel) (pa_cons (pe_op op_mod (pe_callTy call_int1 (by rfl) (T.no "int") (by decide +kernel) (pa_cons (pe_op op_add (pe_df L.sum (hr.mono (by decide)) (pa_cons (pv 8) pa_nil)) pe_int) pa_nil)) pe_int) pa_nil))) pe_str) (pv 8)) (pg_sub (pv 10) (pv 7) set_list))) pss_nil)
    (pss_cons (ps_if (pt_cmpR op_eq (pv 9) pe_int (nomark _)) (pss_one (ps_asg (pe_op op_add_str (pe_op op_add_str (pe_op op_add_str (pe_op op_add_str (pe_op op_add_str (pe_callTy call_str_int (by rfl) (T.no "str") (by decide +kernel) (pa_cons (pv 7) pa_nil)) pe_str)
        (pe_callTy call_str_int (by rfl) (T.no "str") (by decide +kernel) (pa_cons (pe_df L.sum (hr.mono (by decide)) (pa_cons (pe_op op_add_str (pv 8) pe_str) pa_nil)) pa_nil))) pe_str) (pv 8)) pe_str) (pg_sub (pv 10) (pv 7) set_list))) pss_nil)
    (pss_cons (ps_if (pt_cmpR op_eq (pv 9) pe_int (nomark _)) (pss_one (ps_asg (pe_op op_add_str pe_str (pe_ix ix_list (pv 4) (pv 7) (fun _ _ => rfl))) (pg_sub (pv 10) (pv 7) set_list))) pss_nil)
    (pss_cons (ps_if (pt_cmpR op_eq (pv 9) pe_int (nomark _)) (pss_one (ps_asg (pv 8) (pg_sub (pv 10) (pv 7) set_list))) pss_nil) h1)))))), ?_⟩
  intro Q G d c p q cs n c0 v0 v3 v5 v6 v9 v10 v11 v12 J hc hl hn k
  have hlt : n < cs.length := (List.getElem?_eq_some_iff.mp hn).1
  have oc := hc c0 (List.mem_of_getElem? hn)
  refine ldraw rfl J.st (by decide) (by decide) fun m G1 m0 m1 x1 s1 => ?_
  have J1 := J.x1 x1 s1
  refine ⟨_, rfl, q, _, rfl, .inl (SqL.of J1.ln), fun b nb => ?_⟩
  have hb2 : (upd G1 b (.lst ((lns 0 cs).map V.str))) b = some (.lst ((lns 0 cs).map V.str)) := upd_same
  have x2 : X0 G1 (upd G1 b (.lst ((lns 0 cs).map V.str))) := Ext.new nb
  generalize upd G1 b (.lst ((lns 0 cs).map V.str)) = G2 at x2 hb2
  have J2 := J1.x0 x2
  have lx : ((lns 0 cs).map V.str).length = cs.length := by rw [List.length_map, lns_len]
  have hix : ixN ((lns 0 cs).map V.str).length (n : Int) = some n := ixN_nat (by rw [lx]; exact hlt)
  have on := nat_num (n := n) (by omega)
  have ltx := cTx_len oc
  have lnum := num_len on
  have fin : ∀ (kk : Nat) (G3 : Hp), X0 G2 G3 → tr { nx := fun _ H' => Q .non H', rt := Q } [v0, some (.ref d), some (.ref p), v3, some (.ref q), v5, v6, some (.int (n : Int)), some (.str (cTx c0)), some (.int m), some (.ref b), v11, v12] (upd G3 b (.lst (((lns 0 cs).map V.str).set n (.str (badT kk n c0))))) := fun kk G3 x3 => by
    obtain ⟨b1, b2, b3⟩ := bad_ok (k := kk) (n := n) (by omega) oc
    have hb3 := x3.keep b _ hb2 id fun _ z => by cases z
    refine h2 Q _ d c p q b cs n (badT kk n c0) v0 v3 v5 v6 _ _ v11 v12 (J1.x0 (Ext.ownL (x2.trans x3) nb hb3)) hc hl hlt ?_ b1 b2 b3 k
    rw [upd_same, List.map_set]
  have put : ∀ (kk : Nat) (G3 : Hp) (D : Hp → Prop), X0 G2 G3 → D (upd G3 b (.lst (((lns 0 cs).map V.str).set n (.str (badT kk n c0))))) → gSub (tVar 10) (tVar 7) rSetL (.str (badT kk n c0)) [v0, some (.ref d), some (.ref p), v3, some (.ref q), v5, v6, some (.int (n : Int)), some (.str (cTx c0)), some (.int m), some (.ref b), v11, v12] G3 fun _ => D := fun kk G3 D x3 h =>
    ⟨_, rfl, _, rfl, b, _, n, n, rfl, rfl, x3.keep b _ hb2 id (fun _ z => by cases z), hix, h⟩
  have iff : ∀ {P Q : Prop} (i : Int), m ≠ i → Q → if decide (V.int m = V.int i) = true then P else Q := fun i h q => if_f (decide_eq_false fun z => h (V.int.inj z)) q
  have ift : ∀ {P Q : Prop} (i : Int), m = i → P → if decide (V.int m = V.int i) = true then P else Q := fun i h q => if_t (decide_eq_true (by rw [h])) q
  obtain ⟨xs, v, hxs, hat, hdv⟩ := lg_at J2.lg hn
  rcases (by omega : m = 0 ∨ m = 1 ∨ m = 2 ∨ m = 3 ∨ m = 4) with z | z | z | z | z
  · refine ⟨_, rfl, rfl, _, rfl, ift 0 z ?_⟩
    refine ⟨_, rfl, _, _, rfl, rfl, _, rfl, _, rfl, p, xs, (n : Int), v, rfl, rfl, hxs, hat, n + 1, v, c0, rfl, by omega, hdv, oc, fun G3 x3 => put 0 G3 _ x3 ?_⟩
    refine ⟨_, rfl, rfl, _, rfl, iff 1 (by omega) ⟨_, rfl, rfl, _, rfl, iff 2 (by omega) ⟨_, rfl, rfl, _, rfl, iff 3 (by omega) ⟨_, rfl, rfl, _, rfl, iff 4 (by omega) (fin 0 G3 x3)⟩⟩⟩⟩
  · refine ⟨_, rfl, rfl, _, rfl, iff 0 (by omega) ⟨_, rfl, rfl, _, rfl, ift 1 z ?_⟩⟩
    obtain ⟨o1, _⟩ := sum_next (cTx c0)
    have lm := num_len o1
    refine ⟨_, rfl, (n : Int), rfl, num_log2 on, sI (n : Int), bk, rfl, rfl, szl (by rw [bk_len]; omega), ?_⟩
    refine ⟨_, rfl, cTx c0, rfl, cTx_sg oc, by omega, tsum (cTx c0), 1, rfl, rfl, .inl ⟨_, rfl, _, _, rfl, rfl, (by show (0 : Int) < 9973; decide), ?_⟩⟩
    refine ⟨(tsum (cTx c0) + 1) % 9973, rfl, num_log2 o1, sI (n : Int) ++ bk, sI ((tsum (cTx c0) + 1) % 9973), rfl, rfl, szl (by rw [len_app, bk_len]; omega), ?_⟩
    refine ⟨_, bk, rfl, rfl, szl (by simp only [len_app, bk_len]; omega), ?_⟩
    refine ⟨_, rfl, _, cTx c0, rfl, rfl, szl (by simp only [len_app, bk_len]; omega), ?_⟩
    have e : sI (n : Int) ++ bk ++ sI ((tsum (cTx c0) + 1) % 9973) ++ bk ++ cTx c0 = badT 1 n c0 := by
      show _ = lineX (n : Int) ((tsum (cTx c0) + 1) % 9973) (cTx c0)
      unfold lineX
      simp only [app_assoc]
    rw [e]
    exact put 1 G2 _ (Ext.refl _ _) ⟨_, rfl, rfl, _, rfl, iff 2 (by omega) ⟨_, rfl, rfl, _, rfl, iff 3 (by omega) ⟨_, rfl, rfl, _, rfl, iff 4 (by omega) (fin 1 G2 (Ext.refl _ _))⟩⟩⟩
  · refine ⟨_, rfl, rfl, _, rfl, iff 0 (by omega) ⟨_, rfl, rfl, _, rfl, iff 1 (by omega) ⟨_, rfl, rfl, _, rfl, ift 2 z ?_⟩⟩⟩
    have o1 := tsum_ok (cTx c0 ++ bk)
    have lm := num_len o1
    have sg2 : ∀ x ∈ tl (cTx c0 ++ bk), x = 32 ∨ Sg x := fun x hx => by
      rw [TL.tl_append] at hx
      rcases List.mem_append.mp hx with z | z
      · exact cTx_sg oc x z
      · rw [tl_bk] at z
        exact .inl (List.mem_singleton.mp z)
    refine ⟨_, rfl, (n : Int), rfl, num_log2 on, sI (n : Int), bk, rfl, rfl, szl (by rw [bk_len]; omega), ?_⟩
    refine ⟨_, rfl, cTx c0, bk, rfl, rfl, szl (by rw [bk_len]; omega), cTx c0 ++ bk, rfl, sg2, by rw [len_app, bk_len]; omega, ?_⟩
    refine ⟨tsum (cTx c0 ++ bk), rfl, num_log2 o1, sI (n : Int) ++ bk, sI (tsum (cTx c0 ++ bk)), rfl, rfl, szl (by rw [len_app, bk_len]; omega), ?_⟩
    refine ⟨_, bk, rfl, rfl, szl (by simp only [len_app, bk_len]; omega), ?_⟩
    refine ⟨_, rfl, _, cTx c0, rfl, rfl, szl (by simp only [len_app, bk_len]; omega), ?_⟩
    refine ⟨_, bk, rfl, rfl, szl (by simp only [len_app, bk_len]; omega), ?_⟩
    have e : sI (n : Int) ++ bk ++ sI (tsum (cTx c0 ++ bk)) ++ bk ++ cTx c0 ++ bk = badT 2 n c0 := by
      show _ = lineX (n : Int) (tsum (cTx c0 ++ bk)) (cTx c0 ++ bk)
      unfold lineX
      simp only [app_assoc]
    rw [e]
    exact put 2 G2 _ (Ext.refl _ _) ⟨_, rfl, rfl, _, rfl, iff 3 (by omega) ⟨_, rfl, rfl, _, rfl, iff 4 (by omega) (fin 2 G2 (Ext.refl _ _))⟩⟩
  · refine ⟨_, rfl, rfl, _, rfl, iff 0 (by omega) ⟨_, rfl, rfl, _, rfl, iff 1 (by omega) ⟨_, rfl, rfl, _, rfl, iff 2 (by omega) ⟨_, rfl, rfl, _, rfl, ift 3 z ?_⟩⟩⟩⟩
    have ll := lineT_len (n := n) (by omega) oc
    have hl0 : ((lns 0 cs).map V.str)[n]? = some (V.str (lineT n c0)) := by
      rw [List.getElem?_map, lns_get (k := 0) hn, Nat.zero_add]
      rfl
    refine ⟨_, rfl, _, rfl, q, _, (n : Int), _, rfl, rfl, SqL.of J2.ln, atI_nat (j := n) hl0, "0", lineT n c0, rfl, rfl, szl (by rw [show ("0" : Str).length = 1 from rfl]; omega), ?_⟩
    exact put 3 G2 _ (Ext.refl _ _) ⟨_, rfl, rfl, _, rfl, iff 4 (by omega) (fin 3 G2 (Ext.refl _ _))⟩
  · refine ⟨_, rfl, rfl, _, rfl, iff 0 (by omega) ⟨_, rfl, rfl, _, rfl, iff 1 (by omega) ⟨_, rfl, rfl, _, rfl, iff 2 (by omega) ⟨_, rfl, rfl, _, rfl, iff 3 (by omega) ⟨_, rfl, rfl, _, rfl, ift 4 z ?_⟩⟩⟩⟩⟩
    exact ⟨_, rfl, put 4 G2 _ (Ext.refl _ _) (fin 4 G2 (Ext.refl _ _))⟩
end
end K31
/-! K31, the law's defs 9: one call, its line. -/
namespace K31
open PySem PySem.Spec PyProof.Rows L2 GxR
open PySem.W (Frag)
open TL (tl)
section
variable {a : Ad} {w : World} {K : Frag} {mg : Str → Option Value} {base : Heap}
variable {f : Addr} {cdv : Value} {A : Around} {outer : List Env} {s : Shared} {H : Hp} {E : XK}
theorem law_b (T : TT a K mg base) (L : Lw w K mg base a) (hr : Room 31 (XL w K mg base f cdv A outer s H E).A) (hg : (XL w K mg base f cdv A outer s H E).A.guards = some []) :
    ∃ t, PSs (XL w K mg base f cdv A outer s H E) (List.drop 8 (defBody s_law)) t ∧ ∀ (Q : VK) (G : Hp) (d c p q : Addr) (cs : List Cal) (v0 v3 v5 v6 v7 v8 v9 v10 v11 v12 : Option V), LJ a K G d c p q cs → (∀ c ∈ cs, OkCal c) → cs.length ≤ 8 →
      (∀ H', Q (.bl true) H') →
      t { nx := fun _ H' => Q .non H', rt := Q } [v0, some (.ref d), some (.ref p), v3, some (.ref q), v5, v6, v7, v8, v9, v10, v11, v12] G := by
  have nd := sc_law.nd
  have hu := hr.units
  obtain ⟨tr, h1, h2⟩ := law_c (f := f) (cdv := cdv) (outer := outer) (s := s) (H := H) (E := E) T L hr hg
  refine ⟨_, pss_cons (ps_if (pt_cmpR op_eq (pe_callB call_len_seq (by rfl) (T.no "len") PySem.boot_len (pa_cons (pv 2) pa_nil)) pe_int (nomark _)) (pss_one (ps_ret (pe_cmpR (op_eqD hu) (pe_df L.rdj (hr.mono (by decide)) (pa_cons pe_str pa_nil)) (pe_lst pa_nil) (nomark _)))) pss_nil)
    (pss_cons (ps_set (i := 7) nd rfl (.inl rfl) (pe_df L.draw (hr.mono (by decide)) (pa_cons (pv 1) (pa_cons (pe_callB call_len_seq (by rfl) (T.no "len") PySem.boot_len (pa_cons (pv 2) pa_nil)) pa_nil))))
    (pss_cons (ps_set (i := 8) nd rfl (.inl rfl) (pe_join pe_str (pe_df L.ws (hr.mono (by decide)) (pa_cons (pe_ix ix_list (pv 2) (pv 7) (fun _ _ => rfl)) pa_nil))))
    (pss_cons (ps_if (PW.pt (pw_or (pt_cmpR op_ne (pe_df L.lof (hr.mono (by decide)) (pa_cons (pv 7) (pa_cons (pe_ix ix_list (pv 2) (pv 7) (fun _ _ => rfl)) pa_nil))) (pe_ix ix_list (pv 4) (pv 7) (fun _ _ => rfl)) (nomark _))
      (pw_or1 (pt_cmpR op_ne (pe_df L.ts (hr.mono (by decide)) (pa_cons (pv 8) pa_nil)) (pe_df L.sum (hr.mono (by decide)) (pa_cons (pv 8) pa_nil)) (nomark _))))) (pss_one (ps_ret pe_bl)) pss_nil)
    (pss_cons (ps_if (PW.pt (pw_or (pt_cmpR op_ne (pe_callB (call_reprD hg hu) (by rfl) (T.no "repr") (by decide +kernel) (pa_cons (pe_df L.rdl (hr.mono (by decide)) (pa_cons (pv 7) (pa_cons (pe_ix ix_list (pv 4) (pv 7) (fun _ _ => rfl)) pa_nil))) pa_nil))
        (pe_callB (call_reprD hg hu) (by rfl) (T.no "repr") (by decide +kernel) (pa_cons (pe_ix ix_list (pv 2) (pv 7) (fun _ _ => rfl)) pa_nil)) (nomark _))
      (pw_or1 (pt_cmpR op_notN (pe_df L.rdl (hr.mono (by decide)) (pa_cons (pe_op op_add (pv 7) pe_int) (pa_cons (pe_ix ix_list (pv 4) (pv 7) (fun _ _ => rfl)) pa_nil))) pe_non (nomark _))))) (pss_one (ps_ret pe_bl)) pss_nil) h1)))), ?_⟩
  intro Q G d c p q cs v0 v3 v5 v6 v7 v8 v9 v10 v11 v12 J hc hl k
  obtain ⟨l, xs, el, hxs, hdx⟩ := dp_lst J.lg
  cases el
  have lx : xs.length = cs.length := by rw [dpa_len hdx, List.length_map]
  refine ⟨_, rfl, p, xs, rfl, .inl hxs, rfl, _, rfl, ?_⟩
  by_cases h0 : cs.length = 0
  · refine if_t (decide_eq_true (by rw [lx, h0] <;> rfl)) ?_
    have e0 : Txt.split (Str.ofString "") nl = lns 0 [] ++ [] ++ [Str.empty] := rows_split (L := []) (by decide +kernel) (fun _ h => by cases h) List.not_mem_nil
    refine ⟨_, [], [], Str.empty, rfl, (by decide), e0, (fun _ h => by cases h), (by decide), .inl rfl, J.tb, fun v G1 x1 hd => ⟨(by show 0 ≤ sizeLine; decide), fun o no => ?_⟩⟩
    refine ⟨.list [], .list [], (Ext.new no : X0 _ _).dp0 hd, dp_newL upd_same .nil, by decide, by decide, ?_⟩
    exact k _
  · refine if_f (decide_eq_false fun z => h0 (by have := V.int.inj z; omega)) ?_
    refine ⟨_, rfl, _, rfl, p, xs, rfl, .inl hxs, d, c, _, rfl, J.st, by omega, by omega, fun m G1 m0 m1 x1 s1 => ?_⟩
    have J1 := J.x1 x1 s1
    obtain ⟨n, rfl⟩ := num_nat m0
    obtain ⟨c0, hc0⟩ : ∃ c0, cs[n]? = some c0 := ⟨cs[n], List.getElem?_eq_getElem (by omega)⟩
    have oc := hc c0 (List.mem_of_getElem? hc0)
    have hlt : n < cs.length := (List.getElem?_eq_some_iff.mp hc0).1
    have wc := ws_clean oc
    have ltx := cTx_len oc
    have on := nat_num (n := n) (by omega)
    have hno : ∀ x y : Str, x = y → (!decide (V.str x = V.str y)) = false := fun x y e => by rw [decide_eq_true (by rw [e])] <;> rfl
    have lt1 := lineT_len (n := n) (by omega) oc
    have hln : ((lns 0 cs).map V.str)[n]? = some (V.str (lineT n c0)) := by
      rw [List.getElem?_map, lns_get (k := 0) hc0, Nat.zero_add]
      rfl
    have hla := atI_nat (j := n) hln
    obtain ⟨ys, v, hys, hat, hdv⟩ := lg_at J1.lg hc0
    refine ⟨⟨_, rfl⟩, _, rfl, _, rfl, p, ys, (n : Int), v, rfl, rfl, hys, hat, v, c0, rfl, hdv, oc, fun l G2 nl hl2 x2 => ?_⟩
    have J2 := J1.x0 x2
    refine ⟨bk, l, c0.ws, rfl, rfl, .inl (SqL.of hl2), join_ok (k := 10) (n := 64) (fun w hw => (wc.1 w hw).hi) wc.2.1 (by rw [bk_len]; decide), ?_⟩
    obtain ⟨ys, v, hys, hat, hdv⟩ := lg_at J2.lg hc0
    refine ⟨_, rfl, _, rfl, _, rfl, p, ys, (n : Int), v, rfl, rfl, hys, hat, n, v, c0, rfl, by omega, J2.tb, hdv, oc, fun G3 x3 => ?_⟩
    have J3 := J2.x0 x3
    refine ⟨_, rfl, _, rfl, q, _, (n : Int), _, rfl, rfl, SqL.of J3.ln, hla, rfl, _, rfl, if_f (hno _ _ rfl) ?_⟩
    refine ⟨_, rfl, cTx c0, rfl, by omega, J3.tb.2.2, fun G4 x4 => ?_⟩
    have J4 := J3.x0 x4
    refine ⟨_, rfl, cTx c0, rfl, cTx_sg oc, by omega, rfl, _, rfl, if_f (by rw [decide_eq_true rfl] <;> rfl) ?_⟩
    refine ⟨_, rfl, _, rfl, _, rfl, q, _, (n : Int), _, rfl, rfl, SqL.of J4.ln, hla, n, lineT n c0, rfl, by omega, by omega, J4.tb, .inl ⟨c0, oc, rfl, fun u G5 x5 ku => ?_⟩⟩
    have J5 := J4.x0 x5
    obtain ⟨t, ts, rfl, _⟩ := dp_tup (show Dp K G5 u (.tuple (.str c0.key :: c0.parts)) from ku.1)
    refine ⟨t, _, rfl, ku.1, (Ni.cal oc).mono (by decide) (by decide), ?_⟩
    obtain ⟨ys, v, hys, hat, hdv⟩ := lg_at J5.lg hc0
    obtain ⟨t2, ts2, rfl, _⟩ := dp_tup (show Dp K G5 v (.tuple (.str c0.key :: c0.parts)) from hdv)
    refine ⟨_, rfl, _, rfl, p, ys, (n : Int), _, rfl, rfl, hys, hat, t2, _, rfl, hdv, (Ni.cal oc).mono (by decide) (by decide), rfl, _, rfl, if_f (hno _ _ rfl) ?_⟩
    refine ⟨_, rfl, _, _, rfl, rfl, _, rfl, _, rfl, q, _, (n : Int), _, rfl, rfl, SqL.of J5.ln, hla, n + 1, lineT n c0, rfl, by omega, by omega, J5.tb, .inr ⟨lineT_bad (by omega) (by omega) c0, fun G6 x6 => ⟨rfl, _, rfl, if_f rfl ?_⟩⟩⟩
    exact h2 Q G6 d c p q cs n c0 v0 v3 v5 v6 v9 v10 v11 v12 (J5.x0 x6) hc hl hc0 k
end
end K31
/-! K31, the law's defs 10: the log, its lines, its text, whole and cut. -/
namespace K31
open PySem PySem.Spec PyProof.Rows L2 GxR
open PySem.W (Frag)
open TL (tl)
theorem ext_upd {M : Addr → Prop} {H H' : Hp} {l : Addr} {ys : List V} (x : Ext M H H') : Ext M (upd H l (.lst ys)) (upd H' l (.lst ys)) := by
  refine ⟨fun b o e m n => ?_, fun P t => ?_, fun b e => ?_⟩
  · by_cases z : b = l
    · rw [z, upd_same] at e ⊢
      exact e
    · rw [upd_ne z] at e ⊢
      exact x.keep b o e m n
  · obtain ⟨ps, e, q⟩ := t
    by_cases z : P = l
    · rw [z, upd_same] at e
      cases e
    · rw [upd_ne z] at e
      obtain ⟨ps2, e2, q2⟩ := x.tab P ⟨ps, e, q⟩
      exact ⟨ps2, by rw [upd_ne z]; exact e2, q2⟩
  · by_cases z : b = l
    · rw [z, upd_same] at e
      cases e
    · rw [upd_ne z] at e ⊢
      exact x.free b e
/-- one more call at the list D -/
theorem RbAll.draw {K : Frag} {G H4 : Hp} {d c D : Addr} {vs : List V} {ds : List PyData} {v : V} {e : PyData} (h : RbAll K G D vs ds) (s : St0 G d c) (nd : d ≠ D ∧ c ≠ D) (x : X1 d G H4) (kv : Kp K G H4 v e) :
    H4 D = some (.lst vs) ∧ RbAll K (upd H4 D (.lst (vs ++ [v]))) D (vs ++ [v]) (ds ++ [e]) :=
  ⟨x.seq s.ns h.1 rfl, upd_same, fun ys => by
    rw [upd_upd]
    exact dpa_app ((ext_upd x).dpAll (s.own nd).ns (h.2 ys)) (.cons (kv.2 D _ ys h.1) .nil)⟩
def spLaw (a : Ad) (K : Frag) : Sp := fun vs H Q _ => ∃ (sa : Addr) (ns : List Int), vs = [.ref sa] ∧ SqL K H sa (ns.map V.int) ∧ ns.length ≤ 500 ∧ Tb a H ∧ ∀ H', Q (.bl true) H'
section
variable {a : Ad} {w : World} {K : Frag} {mg : Str → Option Value} {base : Heap}
variable {f : Addr} {cdv : Value} {A : Around} {outer : List Env} {s : Shared} {H : Hp} {E : XK}
theorem law_a (T : TT a K mg base) (L : Lw w K mg base a) (hr : Room 31 (XL w K mg base f cdv A outer s H E).A) (hg : (XL w K mg base f cdv A outer s H E).A.guards = some []) :
    ∃ t, PSs (XL w K mg base f cdv A outer s H E) (defBody s_law) t ∧ ∀ (Q : VK) (G : Hp) (vs : List V), spLaw a K vs G Q E → t { nx := fun _ H' => Q .non H', rt := Q } (start nLaw vs) G := by
  have nd := sc_law.nd
  have hu := hr.units
  obtain ⟨tr, h1, h2⟩ := law_b (f := f) (cdv := cdv) (outer := outer) (s := s) (H := H) (E := E) T L hr hg
  refine ⟨_, pss_cons (ps_set (i := 1) nd rfl (.inr rfl) (pe_df L.start (hr.mono (by decide)) (pa_cons (pv 0) pa_nil)))
    (pss_cons (ps_set (i := 2) nd rfl (.inr rfl) (pe_lc (own := [("_law_k", 11)]) (g := gName 11) (tt := tYes) (by rfl) nd (pi_range1 (by rfl) (T.no "range") (pa_cons (pe_df L.draw (hr.mono (by decide)) (pa_cons (pv 1) (pa_cons pe_int pa_nil))) pa_nil))
        (blkOk_by (own := [("_law_k", 11)]) (N := nLaw) (sc := defScope s_law) (by decide +kernel)) (fun _ _ _ _ _ => pg_name (i := 11) nd rfl (.inl rfl)) (fun _ _ _ _ _ => pts_nil) (fun _ _ _ _ _ => pe_df L.call (hr.mono (by decide)) (pa_cons (pv 1) pa_nil))))
    (pss_cons (ps_set (i := 3) nd rfl (.inl rfl) (pe_callB (call_reprD hg hu) (by rfl) (T.no "repr") (by decide +kernel) (pa_cons (pv 2) pa_nil)))
    (pss_cons (ps_setLc (i := 4) (own := [("_law_k", 11)]) (g := gName 11) (tt := tYes) (by rfl) nd rfl rfl (sw_true rfl rfl rfl (by decide +kernel)) (pi_range1 (by rfl) (T.no "range") (pa_cons (pe_callB call_len_seq (by rfl) (T.no "len") PySem.boot_len (pa_cons (pv 2) pa_nil)) pa_nil))
        (blkOk_by (own := [("_law_k", 11)]) (N := nLaw) (sc := defScope s_law) (by decide +kernel)) (fun _ _ _ _ _ => pg_name (i := 11) nd rfl (.inl rfl)) (fun _ _ _ _ _ => pts_nil) (fun _ _ _ _ _ => pe_df L.line (hr.mono (by decide)) (pa_cons (pv 11) (pa_cons (pe_ix (show IxR _ (rIxL K) from ix_list) (pv 2) (pv 11) (fun _ _ => rfl)) pa_nil))))
    (pss_cons (ps_set (i := 5) nd rfl (.inl rfl) (pe_join pe_str
        (pe_lc (own := [("_law_line_here", 12)]) (g := gName 12) (tt := tYes) (by rfl) nd (pi_list (pv 4)) (blkOk_by (own := [("_law_line_here", 12)]) (N := nLaw) (sc := defScope s_law) (by decide +kernel)) (fun _ _ _ _ _ => pg_name (i := 12) nd rfl (.inl rfl)) (fun _ _ _ _ _ => pts_nil) (fun _ _ _ _ _ => pe_op op_add_str (pv 12) pe_str))))
    (pss_cons (ps_if (PW.pt (pw_or (pt_cmpR op_ne (pe_df L.jour (hr.mono (by decide)) (pa_cons (pv 2) pa_nil)) (pv 5) (nomark _))
      (pw_or (pt_cmpR op_ne (pe_callB (call_reprD hg hu) (by rfl) (T.no "repr") (by decide +kernel) (pa_cons (pv 2) pa_nil)) (pv 3) (nomark _))
      (pw_or1 (pt_cmpR op_ne (pe_callB (call_reprD hg hu) (by rfl) (T.no "repr") (by decide +kernel) (pa_cons (pe_df L.rdj (hr.mono (by decide)) (pa_cons (pv 5) pa_nil)) pa_nil)) (pv 3) (nomark _)))))) (pss_one (ps_ret pe_bl)) pss_nil)
    (pss_cons (ps_set (i := 6) nd rfl (.inl rfl) (pe_slice sl_str (pv 5) po_none (po_some (pe_df L.draw (hr.mono (by decide)) (pa_cons (pv 1) (pa_cons (pe_op op_add (pe_callB call_len_str (by rfl) (T.no "len") PySem.boot_len (pa_cons (pv 5) pa_nil)) pe_int) pa_nil))))))
    (pss_cons (ps_if (pt_cmpR op_ne (pe_callB (call_reprD hg hu) (by rfl) (T.no "repr") (by decide +kernel) (pa_cons (pe_df L.rdj (hr.mono (by decide)) (pa_cons (pv 6) pa_nil)) pa_nil))
      (pe_callB (call_reprD hg hu) (by rfl) (T.no "repr") (by decide +kernel) (pa_cons (pe_slice sl_list (pv 2) po_none (po_some (pe_m1 PySem.F.slot_str_count PySem.F.type_str_count mt_count (pv 6) pe_str (by rfl) (by rfl) (by rfl)))) pa_nil)) (nomark _)) (pss_one (ps_ret pe_bl)) pss_nil) h1))))))), ?_⟩
  rintro Q G vs ⟨sa, ns, rfl, hsa, hns, tb, k⟩
  refine ⟨_, rfl, sa, ns, rfl, hsa, hns, fun d c G1 x1 s1 => ?_⟩
  refine ldraw rfl s1 (by decide) (by decide) fun m G2 m0 m1 x2 s2 => ?_
  have tb2 := x2.tb (x1.tb tb)
  refine ⟨m, rfl, by omega, by omega, fun p np => lc_range (lo := 0) (n := m.toNat) (fun i G => X1 d G2 G ∧ St0 G d c ∧ ∃ (cs : List Cal) (vs : List V), cs.length = i ∧ (∀ y ∈ cs, OkCal y) ∧ RbAll K G p vs (cs.map Cal.d)) ⟨Ext.new np, s2.new np, [], [], rfl, all_nil, upd_same, fun ys => .nil⟩ (fun i G hi hP => ?_) (fun G3 hP => ?_)⟩
  · obtain ⟨x3, s3, cs, vs, lc, hcs, hR⟩ := hP
    refine ⟨rfl, _, rfl, d, c, rfl, s3, fun cal v H4 oc kv x4 s4 => ?_⟩
    obtain ⟨hp4, hR4⟩ := hR.draw s3 (s2.apart np) x4 kv
    have lv : vs.length = cs.length := by rw [dpa_len hR.here, List.length_map]
    refine ⟨vs, hp4, small1000 (by omega), Ext.ownL (x3.trans x4) np hp4, s4.own (s2.apart np), cs ++ [cal], vs ++ [v], by rw [List.length_append, lc] <;> rfl, all_app hcs (all_cons oc all_nil), ?_⟩
    rw [List.map_append]
    exact hR4
  · obtain ⟨x3, s3, cs, vs, lc, hc, hR⟩ := hP
    have hl : cs.length ≤ 8 := by omega
    have tb3 := x3.tb tb2
    have lg3 : Dp K G3 (.ref p) (.list (cs.map Cal.d)) := dp_newL hR.1 hR.here
    have NI := Ni.cals hc (by omega)
    refine ⟨_, rfl, p, _, rfl, lg3, NI, ?_⟩
    have lv : vs.length = cs.length := by rw [dpa_len hR.here, List.length_map]
    refine ⟨_, rfl, p, vs, rfl, .inl (SqL.of hR.1), _, rfl, by omega, by omega, fun q nq => lc_range (lo := 0) (n := ((vs.length : Nat) : Int).toNat) (fun i G => X0 G3 G ∧ G q = some (.lst (((lns 0 cs).take i).map V.str))) ⟨Ext.new nq, upd_same⟩ (fun i G hi hP => ?_) (fun G4 hP => ?_)⟩
    · obtain ⟨x4, hq⟩ := hP
      obtain ⟨c0, hc0⟩ : ∃ c0, cs[i]? = some c0 := ⟨cs[i], List.getElem?_eq_getElem (by omega)⟩
      have oc := hc c0 (List.mem_of_getElem? hc0)
      obtain ⟨ys, v, hys, hat, hdv⟩ := lg_at (x4.dp0 lg3) hc0
      have ei : (0 : Int) + (i : Int) = (i : Int) := Int.zero_add _
      rw [ei]
      refine ⟨rfl, _, rfl, _, rfl, _, rfl, p, ys, (i : Int), v, rfl, rfl, hys, hat, i, v, c0, rfl, by omega, hdv, oc, fun G5 x5 => ?_⟩
      have hq5 := x5.keep q _ hq id fun _ z => by cases z
      refine ⟨_, hq5, small1000 (by rw [List.length_map, List.length_take]; omega), Ext.ownL (x4.trans x5) nq hq5, ?_⟩
      rw [upd_same, take_succ (lns_get (k := 0) hc0), List.map_append, Nat.zero_add]
      rfl
    · obtain ⟨x4, hq⟩ := hP
      rw [show ((vs.length : Nat) : Int).toNat = vs.length from rfl, List.take_of_length_le (by rw [lns_len]; omega)] at hq
      have J4 : LJ a K G4 d c p q cs := ⟨s3.x0 x4, x4.dp0 lg3, hq, x4.tb tb3⟩
      have hno : ∀ x y : Str, x = y → (!decide (V.str x = V.str y)) = false := fun x y e => by rw [decide_eq_true (by rw [e])] <;> rfl
      have hll : ∀ l ∈ lns 0 cs, l.length ≤ 1000 := lns_all hc (by omega) fun m x hm hx => Nat.le_trans (lineT_len hm hx) (by decide)
      have jl := jTx_len hc (by omega)
      delta gName tSeq tAsg
      dsimp only
      refine lc_rows (i := 4) (j := 12) (σ := [some (.ref sa), some (.ref d), some (.ref p), some (.str (PyData.list (cs.map Cal.d)).shown), some (.ref q), none, none, none, none, none, none, none, none]) J4.ln hll (by rw [lns_len]; omega) rfl (by show 12 < 13; decide) fun G5 x5 => ?_
      have J5 := J4.x0 x5
      rw [← jTx_rowT]
      refine ⟨_, rfl, _, cs, rfl, J5.tb, J5.lg, hc, by omega, fun G6 x6 => ?_⟩
      have J6 := J5.x0 x6
      refine ⟨_, rfl, rfl, _, rfl, if_f (hno _ _ rfl) ?_⟩
      refine ⟨_, rfl, p, _, rfl, J6.lg, NI, _, rfl, rfl, _, rfl, if_f (hno _ _ rfl) ?_⟩
      refine ⟨_, rfl, jTx cs, cs, [], Str.empty, rfl, by omega, jTx_split hc (by omega), hc, by omega, .inl rfl, J6.tb, fun u G7 x7 hd7 => ?_⟩
      have J7 := J6.x0 x7
      obtain ⟨l7, ys7, rfl, _, _⟩ := dp_lst hd7
      refine ⟨l7, _, rfl, hd7, NI, _, rfl, rfl, _, rfl, if_f (hno _ _ rfl) ?_⟩
      refine ⟨_, rfl, _, rfl, _, rfl, jTx cs, rfl, szl (by omega), _, _, rfl, rfl, d, c, _, rfl, J7.st, by omega, by omega, fun n G8 n0 n1 x8 s8 => ⟨n, rfl, jTx cs, rfl, szl (by omega), ?_⟩⟩
      have J8 := J7.x1 x8 s8
      obtain ⟨nn, rfl⟩ := num_nat n0
      have ec : tl (cutS (jTx cs) none (some (nn : Int))) = (tl (jTx cs)).take (min nn (jTx cs).length) := by
        show ((tl (jTx cs)).drop 0).take (min nn (jTx cs).length - 0) = _
        rw [List.drop_zero, Nat.sub_zero]
      have lc8 := cutS_length (jTx cs) none (some (nn : Int))
      generalize cutS (jTx cs) none (some (nn : Int)) = cut at ec lc8
      obtain ⟨mm, last, hmm, hsp, hcnt⟩ := jTx_cut hc (by omega) ec
      have hc2 : ∀ c ∈ cs.take mm, OkCal c := fun x hx => hc x (List.mem_of_mem_take hx)
      have hl2 : (cs.take mm).length = mm := by rw [List.length_take]; omega
      have NI2 := Ni.cals hc2 (by omega)
      refine ⟨_, rfl, cut, cs.take mm, [], last, rfl, by omega, hsp, hc2, by omega, .inl rfl, J8.tb, fun u G9 x9 hd9 => ?_⟩
      have J9 := J8.x0 x9
      obtain ⟨l9, ys9, rfl, _, _⟩ := dp_lst hd9
      obtain ⟨ys, hy, hcut⟩ := lg_cut (n := mm) (o := p) J9.lg
      refine ⟨l9, _, rfl, hd9, NI2, _, rfl, _, rfl, ⟨_, rfl⟩, cut, nl, rfl, rfl, (mm : Int), by rw [hcnt], p, ys, rfl, hy, fun o no => ?_⟩
      refine ⟨o, _, rfl, hcut o no, NI2, rfl, _, rfl, if_f (hno _ _ rfl) ?_⟩
      exact h2 Q _ d c p q cs _ _ _ _ _ _ _ _ _ _ (J9.x0 (Ext.new no)) hc hl k
end
end K31
/-! K31, the end: the law's call, from a caller with no repr under way (callerA). -/
namespace K31
open PySem PySem.Spec PyProof.Rows L2 GxR
open PySem.W (Frag)
abbrev psL : List Str := ["_law_script"]
/-- the law is called -/
theorem law_runs {a : Ad} {w : World} {K : Frag} {mg : Str → Option Value} {base : Heap} {f : Addr} {fd : FuncData} {ou : List Env} {s : Shared} {H : Hp} {us : List Value} {vs : List V} {Q : VK} {E : XK} (T : TT a K mg base) (L : Lw w K mg base a) (F : Fun K "law" "law" s_law f fd)
    (room : Room 32 callerA) (en : Env0 Pg w K mg base callerA ou s H) (bi : BindsTo s fd ⟨us, []⟩ (psL.zip us)) (rv : Vals vs us) (sp : spLaw a K vs H Q E) : codeAny (model Pg w) callerA (.call (.ref f) ⟨us, []⟩) (CR CX0 ou Pg w H s Q E) s := by
  have one : vs.length = 1 := by
    obtain ⟨_, _, e, _⟩ := sp
    rw [e]
    rfl
  obtain ⟨oc, od, kV, doc, pm, an, cdv, ct, osl, rfl, lk, cin⟩ := F.ex
  have sc := sc_law
  have up : ∀ b o, base.get? b = some o → s.heap.get? b = some o := fun b o q => (en.bs b o q).1
  have kin : K.In s.heap := en.mod.kin.keeps up
  have nol : s.heap.NoLimit := en.mod.nolimit.keeps up
  have kinds : ∀ z ∈ psL.zip us, (defScope s_law).names.lookup z.1 = some .local ∨ ((defScope s_law).names.lookup z.1 = some .cell ∧ ((cellsFrom (s.heap.objs.size + 1) (defScope s_law).names []).lookup z.1).isSome = true) := by
    rintro ⟨n, v⟩ hz
    have hn := (List.of_mem_zip hz).1
    exact (sc.par n hn).imp id fun k => ⟨k, PySem.W.cellsFrom_some _ _ _ (.inl k)⟩
  refine codeAny_call_function room.depth (kin _ _ lk) rfl sc.co sc.gen rfl (PySem.W.codeRec_of kin cin) (bi _ _ _ _ (wpAny_newFunctionEnv_cells sc.kind kinds fun env he s1 x => ?_))
  subst he
  refine ⟨nol.keeps x.toInCall.keep, codeAny_func ?_⟩
  obtain ⟨t, ht, hq⟩ := law_a (f := f) (cdv := cdv) (A := callerA) (outer := ou) (s := s) (H := H) (E := E) T L (room.deeper _) rfl
  have I1 := inv_start (CX := CX0) (E := E) (qual := "law") (f := f) (cd := cdv) sc room.hd en (show vs.length = psL.length from one) rv x
  refine wpAny_mono (ht.nox.run [] s1 (start nLaw vs) H _ I1 (hq Q H vs sp)) (fun fl s2 out => ?_) fun _ _ z => z
  cases fl with
  | next =>
    obtain ⟨_, H2, J, q⟩ := out
    exact ⟨V.non, H2, J.os, J.bare, J.base, J.hok, rfl, q⟩
  | ret u =>
    obtain ⟨v, _, H2, J, r, q⟩ := out
    exact ⟨v, H2, J.os, J.bare, J.base, J.hok, r, q⟩
  | brk => exact out.elim fun _ z => z.elim fun _ z => z.2.elim
  | cont => exact out.elim fun _ z => z.elim fun _ z => z.2.elim
/-- what is known where the law is called -/
structure EndH (K : Frag) (mg mb : Str → Option Value) (s : Shared) (sa : Addr) (us : List Value) (zs : List Int) (tabs : List (Addr × Addr)) : Prop where
  kin : K.In s.heap
  gl : s.heap.Ns mainGlobals mg
  bi : s.heap.Ns builtinsNs mb
  bb : ∀ x : Str, x ≠ "__name__" → mb x = bootBuiltins x
  lim : s.heap.NoLimit
  gens : s.gens = #[]
  tb : ∀ p ∈ tabs, s.heap.get? p.2 = some { cls := .none, data := .fields #[] }
  nk : ∀ p ∈ tabs, K.lookup p.2 = none
  cd : ∀ p ∈ tabs, PySem.W.CodeHd s.heap p.1 p.2
  bm : ∃ (m : Addr) (ob : Obj), mg "__builtins__" = some (.ref m) ∧ m ≠ builtinsNs ∧ s.heap.get? m = some ob ∧ ob.cls = .type "module" ∧ ob.dict = some builtinsNs ∧ ob.data = .plain
  sc : s.heap.get? sa = some { cls := .type "list", data := .seq us.toArray }
  zint : IntsAre us zs
  sz : zs.length ≤ sizeLine
/-- what is tracked there: the tables, the script where it is no part of K -/
structure EndT (w : World) (K : Frag) (s : Shared) (sa : Addr) (zs : List Int) (tabs : List (Addr × Addr)) (H : Hp) : Prop where
  tt : ∀ p ∈ tabs, H p.2 = some (.tbl #[])
  only : ∀ b o, H b = some o → b ∈ tabs.map (·.2) ∨ (b = sa ∧ K.lookup sa = none ∧ ∃ ob xs, o = .frz ob (.lst xs))
  sq : SqL K H sa (zs.map V.int)
  ok : HOk Pg w H s.heap
section
variable {a : Ad} {w : World} {K : Frag} {mg mb : Str → Option Value} {s : Shared} {sa f : Addr} {fd : FuncData} {us : List Value} {zs : List Int} {tabs : List (Addr × Addr)} {H : Hp}
theorem EndH.isT (h : EndH K mg mb s sa us zs tabs) {b : Addr} (m : b ∈ tabs.map (·.2)) : s.heap.get? b = some { cls := .none, data := .fields #[] } := by
  obtain ⟨p, hp, rfl⟩ := List.mem_map.mp m
  exact h.tb p hp
theorem EndH.saT (h : EndH K mg mb s sa us zs tabs) : sa ∉ tabs.map (·.2) := fun m => by
  have q := h.isT m
  rw [h.sc] at q
  cases q
/-- an object that is neither a list nor an empty table is not tracked -/
theorem EndH.off (h : EndH K mg mb s sa us zs tabs) (t : EndT w K s sa zs tabs H) {b : Addr} {o : Obj} (e : s.heap.get? b = some o) (h1 : ∀ vs n, o.data ≠ .seq vs n) (h2 : o.data ≠ .fields #[]) : H b = none := by
  cases q : H b with
  | none => rfl
  | some u =>
    rcases t.only b u q with m | ⟨rfl, _⟩
    · rw [h.isT m] at e
      cases e
      exact absurd rfl h2
    · rw [h.sc] at e
      cases e
      exact absurd rfl (h1 _ _)
theorem EndH.ns (h : EndH K mg mb s sa us zs tabs) (t : EndT w K s sa zs tabs H) {b : Addr} {m : Str → Option Value} (n : s.heap.Ns b m) : (hidT s.heap H).Ns b m := by
  obtain ⟨o, es, ep, e, d, r⟩ := n
  exact ⟨o, es, ep, hidT_get e (h.off t e (fun _ _ z => by rw [d] at z; cases z) fun z => by rw [d] at z; cases z), d, r⟩
theorem EndH.inK (h : EndH K mg mb s sa us zs tabs) (t : EndT w K s sa zs tabs H) : K.In (hidT s.heap H) := fun b o e => by
  refine hidT_get (h.kin b o e) ?_
  cases q : H b with
  | none => rfl
  | some u =>
    rcases t.only b u q with m | ⟨rfl, n, _⟩
    · obtain ⟨p, hp, rfl⟩ := List.mem_map.mp m
      rw [h.nk p hp] at e
      cases e
    · rw [n] at e
      cases e
theorem EndH.tbs (h : EndH K mg mb s sa us zs tabs) (t : EndT w K s sa zs tabs H) : ∀ p ∈ tabs, TabB (hidT s.heap H) mg p.1 p.2 := fun p hp => by
  have tp := h.tb p hp
  have nG : ∀ {b : Addr} {ob : Obj}, s.heap.get? b = some ob → ob.data = .plain → b ≠ mainGlobals := fun {b ob} e d z => by
    obtain ⟨o, es, ep, e2, d2, _⟩ := h.gl
    rw [z, e2] at e
    cases e
    rw [d2] at d
    cases d
  refine ⟨?_, ?_, fun z => ?_⟩
  · obtain ⟨o, vs, file, tf, flags, tg, inF, text, tt, e1, r1, r2, r3, more⟩ := h.cd p hp
    refine ⟨o, vs, file, tf, flags, tg, inF, text, tt, hidT_get e1 (h.off t e1 (fun _ _ z => ?_) fun z => ?_), r1, r2, r3, more⟩
    · rw [r2] at z
      cases z
    · rw [r2] at z
      cases z
      simp at r3
  · obtain ⟨m, ob, b1, b2, b3, b4, b5, b6⟩ := h.bm
    refine ⟨m, ob, b1, b2, nG b3 b6, fun z => ?_, hidT_get b3 (h.off t b3 (fun _ _ z => ?_) fun z => ?_), b4, b5, b6⟩
    · rw [z, tp] at b3
      cases b3
      cases b6
    · rw [b6] at z
      cases z
    · rw [b6] at z
      cases z
  · obtain ⟨o, es, ep, e, d, _⟩ := h.gl
    rw [z, tp] at e
    cases e
    cases d
theorem EndH.env (h : EndH K mg mb s sa us zs tabs) (t : EndT w K s sa zs tabs H) : Env0 Pg w K mg (hidT s.heap H) callerA [] s H where
  frames := rfl
  mod := ⟨h.inK t, h.ns t h.gl, ⟨mb, h.ns t h.bi, h.bb⟩, by
    obtain ⟨m, n1, n2⟩ := h.lim
    exact ⟨m, h.ns t n1, n2⟩⟩
  bs := fun _ _ e => of_hidT e
  bsz := Nat.le_of_eq (hidT_size _ _)
  funs := trivial
  frf := fun b hb => by cases hb
  hok := t.ok
  bare := .of_eq h.gens
abbrev Done (s : Shared) (r : Result) (s' : Shared) : Prop := r = .ok (.ret (.bool true)) ∧ OldK s.heap s'.heap ∧ s'.os = s.os ∧ AllBare s'.gens
theorem law_core (h : EndH K mg mb s sa us zs tabs) (t : EndT w K s sa zs tabs H) (room : Room 32 callerA) (T : ∀ base : Heap, K.In base → (∀ p ∈ tabs, TabB base mg p.1 p.2) → TT a K mg base ∧ Lw w K mg base a) (F : Fun K "law" "law" s_law f fd)
    (bi : BindsTo s fd ⟨[.ref sa], []⟩ [("_law_script", .ref sa)]) (short : zs.length ≤ 500) (tb : Tb a H) : codeAny (model Pg w) callerA (.call (.ref f) ⟨[.ref sa], []⟩) (Done s) s := by
  obtain ⟨TT, L⟩ := T _ (h.inK t) (h.tbs t)
  refine codeAny_mono (law_runs (us := [.ref sa]) (vs := [.ref sa]) (Q := fun v _ => v = .bl true) (E := fun _ _ _ => False) TT L F room (h.env t) bi (.cons rfl .nil) ⟨sa, zs, rfl, t.sq, short, tb, fun _ => rfl⟩) fun r s' out => ?_
  match r, out with
  | .error e, out => exact (show False from out).elim
  | .ok .next, out => exact (show False from out).elim
  | .ok .brk, out => exact (show False from out).elim
  | .ok .cont, out => exact (show False from out).elim
  | .ok (.ret u), out =>
    obtain ⟨v, H2, os, bare, un, ok2, ru, q⟩ := out
    cases (show v = .bl true from q)
    obtain rfl : u = Value.bool true := ru
    have grown : ∀ {b : Addr}, b ∈ tabs.map (·.2) → ∃ (p : Addr × Addr) (more : Array Value), p ∈ tabs ∧ p.2 = b ∧ s'.heap.get? b = some { cls := .none, data := .fields more } := fun {b} m => by
      obtain ⟨p, hp, rfl⟩ := List.mem_map.mp m
      obtain ⟨more, z⟩ := un.tbls p.2 #[] (t.tt p hp)
      exact ⟨p, _, hp, rfl, ok2 p.2 _ z⟩
    have same : ∀ b o, b ∉ tabs.map (·.2) → s.heap.get? b = some o → s'.heap.get? b = some o := fun b o nb e => by
      cases q : H b with
      | none => exact un.keep b o e q (fun z => by cases z) (by simp)
      | some u =>
        rcases t.only b u q with m | ⟨_, _, ob, xs, rfl⟩
        · exact absurd m nb
        · have z1 := (t.ok b _ q).1
          have z2 := (ok2 b _ (un.frzs b ob _ q)).1
          rw [e] at z1
          cases z1
          exact z2
    refine ⟨rfl, ⟨fun b o e => ?_, fun b o e => ?_⟩, os, bare⟩
    · by_cases m : b ∈ tabs.map (·.2)
      · obtain ⟨p, more, hp, rfl, g⟩ := grown m
        rw [h.tb p hp] at e
        cases e
        exact .inr (.inl ⟨((h.cd p hp).tab (h.tb p hp)).isCodeTable, rfl, #[], more, rfl, by rw [Array.empty_append]; exact g⟩)
      · exact .inl (same b o m e)
    · by_cases m : b ∈ tabs.map (·.2)
      · obtain ⟨_, more, _, _, g⟩ := grown m
        exact ⟨_, g⟩
      · exact ⟨o, same b o m e⟩
theorem law_end (h : EndH K mg mb s sa us zs tabs) (room : Room 32 callerA) (T : ∀ base : Heap, K.In base → (∀ p ∈ tabs, TabB base mg p.1 p.2) → TT a K mg base ∧ Lw w K mg base a) (F : Fun K "law" "law" s_law f fd) (bi : BindsTo s fd ⟨[.ref sa], []⟩ [("_law_script", .ref sa)])
    (short : zs.length ≤ 500) (tb : ∀ H : Hp, (∀ p ∈ tabs, H p.2 = some (.tbl #[])) → Tb a H) : codeAny (model Pg w) callerA (.call (.ref f) ⟨[.ref sa], []⟩) (Done s) s := by
  have rv := vals_ints h.zint
  have lv := h.zint.length
  have tm : ∀ p ∈ tabs, p.2 ∈ tabs.map (·.2) := fun p hp => List.mem_map.mpr ⟨p, hp, rfl⟩
  suffices q : ∃ H, EndT w K s sa zs tabs H by
    obtain ⟨H, t⟩ := q
    exact law_core h t room T F bi short (tb H t.tt)
  cases hk : K.lookup sa with
  | some o =>
    have e := h.kin sa o hk
    rw [h.sc] at e
    cases e
    refine ⟨fun b => if b ∈ tabs.map (·.2) then some (.tbl #[]) else none, ⟨fun p hp => if_pos (tm p hp), fun b o z => .inl ?_, .inr ⟨_, us.toArray, _, hk, rfl, rfl, rfl, by rw [List.size_toArray, lv]; exact h.sz, by simpa using rv⟩, fun b o z => ?_⟩⟩
    · by_cases m : b ∈ tabs.map (·.2)
      · exact m
      · rw [if_neg m] at z
        cases z
    · by_cases m : b ∈ tabs.map (·.2)
      · rw [if_pos m] at z
        cases z
        exact h.isT m
      · rw [if_neg m] at z
        cases z
  | none =>
    refine ⟨fun b => if b = sa then some (.frz { cls := .type "list", data := .seq us.toArray } (.lst (zs.map V.int))) else if b ∈ tabs.map (·.2) then some (.tbl #[]) else none, ⟨fun p hp => ?_, fun b o z => ?_, .inl (.inr ⟨{ cls := .type "list", data := .seq us.toArray }, if_pos rfl⟩), fun b o z => ?_⟩⟩
    · rw [if_neg fun z => h.saT (by rw [← z]; exact tm p hp), if_pos (tm p hp)]
    · by_cases n : b = sa
      · rw [if_pos n] at z
        exact .inr ⟨n, hk, _, _, (Option.some.inj z).symm⟩
      · rw [if_neg n] at z
        by_cases m : b ∈ tabs.map (·.2)
        · exact .inl m
        · rw [if_neg m] at z
          cases z
    · by_cases n : b = sa
      · rw [if_pos n] at z
        cases z
        rw [n]
        exact ⟨h.sc, by rw [List.length_map]; exact h.sz, us, _, rv, h.sc⟩
      · rw [if_neg n] at z
        by_cases m : b ∈ tabs.map (·.2)
        · rw [if_pos m] at z
          cases z
          exact h.isT m
        · rw [if_neg m] at z
          cases z
end
end K31
/-! K31, the head 1: what is looked at behind the written part. -/
namespace K31
open PySem PySem.Spec PyProof.Rows L2 GxR
open PySem.W (Frag)
abbrev Rw : PySem.W.OpenLaw := PySem.Challenge.rw_skyapart_k31_whole_journal_cut_anywhere
abbrev Rr : PySem.W.OpenRow := PySem.W.OpenLaw.row Rw
def dD (x : Str) (st : Stmt) : He.DefD := ⟨(x, none), x, x, defArgs st, defBody st, defScope st, [], []⟩
def dM (m q : Str) (st : Stmt) : He.DefD := ⟨("Words", some m), m, q, defArgs st, defBody st, defScope st, [], []⟩
def fnD : List He.DefD := [dD "is_name" s_is_name, dD "is_number" s_is_number, dD "is_signed" s_is_signed, dD "change_text" s_change_text, dD "clearance_text" s_clearance_text, dD "read_change" s_read_change, dD "read_clearance_words" s_read_clearance_words,
  dD "message_text" s_message_text, dD "read_message_words" s_read_message_words, dD "request_text" s_request_text, dD "read_request_words" s_read_request_words, dD "enter_text" s_enter_text, dD "say_text" s_say_text, dD "solve_text" s_solve_text,
  dD "hear_text" s_hear_text, dD "give_text" s_give_text, dD "pass_text" s_pass_text, dD "advance_text" s_advance_text, dD "call_text" s_call_text, dD "read_enter" s_read_enter, dD "read_say" s_read_say, dD "read_solve" s_read_solve, dD "read_hear" s_read_hear,
  dD "read_give" s_read_give, dD "read_pass" s_read_pass, dD "read_advance" s_read_advance, dD "read_call" s_read_call, dD "text_sum" s_text_sum, dD "line_of" s_line_of, dD "journal_text" s_journal_text, dD "read_line" s_read_line, dD "read_journal" s_read_journal,
  dD "_law_start" s_law_start, dD "_law_draw" s_law_draw, dD "_law_pick" s_law_pick, dD "_law_name" s_law_name, dD "_law_number" s_law_number, dD "_law_change" s_law_change, dD "_law_clearance" s_law_clearance, dD "_law_message" s_law_message,
  dD "_law_any_request" s_law_any_request, dD "_law_call" s_law_call, dD "_law_change_words" s_law_change_words, dD "_law_clearance_words" s_law_clearance_words, dD "_law_message_words" s_law_message_words, dD "_law_request_words" s_law_request_words,
  dD "_law_joined" s_law_joined, dD "_law_call_words" s_law_call_words, dD "_law_sum" s_law_sum, dD "_law_line" s_law_line, dD "law" s_law]
def fnM : List He.DefD := [dM "__init__" "Words.__init__" s_Words_init, dM "left" "Words.left" s_Words_left, dM "coming" "Words.coming" s_Words_coming, dM "next_word" "Words.next_word" s_Words_next_word, dM "choice" "Words.choice" s_Words_choice,
  dM "name" "Words.name" s_Words_name, dM "number" "Words.number" s_Words_number, dM "signed" "Words.signed" s_Words_signed, dM "end" "Words.end" s_Words_end]
def fnA : List He.DefD := fnD ++ fnM
def faA : List He.Fa := (fnD.map fun d => He.Fa.glo d.name) ++ ((fnM.map fun d => He.Fa.meth "Words" d.name) ++ ((blNames.map He.Fa.free) ++
  [.int "LONGEST_NAME" 5, .int "MOST_DIGITS" 9, .int "MODULUS" 9973, .str "CAPITALS" "ABCDEFGHIJKLMNOPQRSTUVWXYZ", .str "NAME_CHARACTERS" "ABCDEFGHIJKLMNOPQRSTUVWXYZ0123456789", .str "DIGITS" "0123456789", .str "END_OF_PART" "/", .str "BETWEEN" " / ",
   .glo "Words", .glo "TextError", .glo "WORDS_OF_CHANGES", .glo "LONG", .glo "SHORT", .glo "WRITERS", .glo "READERS", .cls "Words", .mkr "Words", .noat "Words" "_words", .noat "Words" "_at", .noat "TextError" "at", .keep "TextError", .exm "TextError" "TextError" true]))
def tfA : List He.Defn := [("is_name", none), ("is_number", none), ("text_sum", none)]
def tbA : List He.Tab := [(fun K => He.ga K "WORDS_OF_CHANGES", ["level", "speed", "route"]), (fun K => He.ga K "LONG", ["say", "read", "confirm"]), (fun K => He.ga K "SHORT", ["ask", "taken", "not"]),
  (fun K => He.ga K "WRITERS", ["enter", "say", "solve", "hear", "give", "pass_on", "advance"]), (fun K => He.ga K "READERS", ["ENTER", "SAY", "SOLVE", "HEAR", "GIVE", "PASS", "ADVANCE"])]
/-! ### the tables' values -/
def sdB (K : Frag) (x : Str) (yes : List (Str × Str)) (no : List Str) : Bool := (yes.all fun p => match PySem.W.nsIn K (He.ga K x) p.1 with
  | some (some (.str y _)) => decide (y = p.2)
  | _ => false) && no.all fun z => He.eqO (PySem.W.nsIn K (He.ga K x) z) (some none)
def fdB (K : Frag) (x : Str) (l : List (Str × Str)) : Bool := l.all fun p => He.eqO (PySem.W.nsIn K (He.ga K x) p.1) (some (some (.ref (He.ga K p.2))))
/-! ### TextError -/
def cTE (K : Frag) : Addr := He.ga K "TextError"
def fTE (K : Frag) : Addr := He.ma K (cTE K) "__init__"
def fdTE (K : Frag) : Option FuncData := match K.lookup (fTE K) with
  | some ⟨_, _, .func fd, _⟩ => some fd
  | _ => none
def ccTE (K : Frag) : Addr := match fdTE K with
  | some fd => (fd.closure.getD 0 ("", 0)).2
  | none => 0
def cdTE (K : Frag) : Addr := match fdTE K with
  | some fd => (match fd.code with
    | .ref c => c
    | _ => 0)
  | none => 0
abbrev TeV : Type := Option (Str × Str × Arguments × FuncBody × Scope × Addr × List Str × Addr)
def teObs (K : Frag) : TeV := match fdTE K with
  | some fd => some (fd.name, fd.qualname, fd.params, fd.body, fd.scope, fd.globals, fd.closure.map (·.1), fd.builtins)
  | none => none
def teVal : TeV := some ("__init__", "TextError.__init__", defArgs s_TE, .stmts (defBody s_TE), defScope s_TE, mainGlobals, ["__class__"], builtinsNs)
def isNon : Value → Bool
  | .none => true
  | _ => false
def fdB2 (K : Frag) : Bool := match fdTE K with
  | some fd => isNon fd.defaults && (match fd.code with
    | .ref _ => true
    | _ => false)
  | none => false
def clsB (K : Frag) : Bool := match K.lookup (cTE K) with
  | some ⟨.type "type", _, .cls cd, sl⟩ => (match cd.mro, sl.toList with
    | .ref C' :: bm, [_, _, _, _, some (.builtin n), _] => C' == cTE K && (n == "ValueError.__new__" && (!cd.hasDel && (cd.hasDict && PySem.HandSPX.refsVE bm)))
    | _, _ => false)
  | _ => false
def cellB (K : Frag) : Bool := match K.lookup (ccTE K) with
  | some ⟨_, _, .cell (some (.ref C')), _⟩ => C' == cTE K
  | _ => false
def codeB (K : Frag) : Bool := match K.lookup (cdTE K) with
  | some ⟨_, _, .fields vs, _⟩ => (match (vs[2]? : Option Value) with
    | some (.str file _) => (PySem.Challenge.pw_skyapart_k31_whole_journal_cut_anywhere.main.file : Str) == file
    | _ => false)
  | _ => false
def exL (K : Frag) : List Bool := [clsB K, He.eqO (PySem.W.findIn K (.ref (cTE K)) "__setattr__") (some (some (.builtin "object.__setattr__"))), He.eqO (PySem.W.findIn K (.ref (cTE K)) "__init__") (some (some (.ref (fTE K)))),
  decide (PySem.W.typeIn K (.ref (fTE K)) = some (.type "function")), decide (PySem.W.subIn K (.ref (cTE K)) (.type "BaseException") = some true), decide (PySem.W.subIn K (.ref (cTE K)) (.type "ValueError") = some true),
  decide (PySem.W.typeIn K (.ref (cTE K)) = some (.type "type")), He.eqO (PySem.W.ks_superIn K (cTE K) (cTE K) "__init__") (some (some (.builtin "ValueError.__init__"))), decide (PySem.W.mroIn K (cTE K) (.ref (cTE K)) = some true),
  He.eqO (PySem.W.nsIn K cStatics "thirdparty.any") (some none), cellB K, codeB K, PySem.W.codeIn K (.ref (cdTE K)) "TextError.__init__", fdB2 K,
  sdB K "WORDS_OF_CHANGES" chT [], sdB K "LONG" lgT ["ask", "taken", "not"], sdB K "SHORT" shT [], fdB K "WRITERS" wrT, fdB K "READERS" rdT]
def exB (K : Frag) : Bool := (exL K).all id
/-! ### the Hook: He.hookX's, over cStatics too, and TextError's __init__ -/
def ads (g : Addr → Option Obj) : List Addr := cStatics :: He.asD g 5
abbrev AlK : Type := He.AlX × TeV
def obK (g : Addr → Option Obj) : AlK := ((He.obsT faA fnA tbA (He.frT g (ads g)), exB (He.frT g (ads g)) && He.tabsB g tfA (He.frT g (ads g))), teObs (He.frT g (ads g)))
def valK (w : World) : AlK := (He.valX fnA tbA w, teVal)
structure SaysK (w : World) (h : Heap) (K : Frag) : Prop where
  x : He.SaysX faA fnA tbA tfA exB w h K
  te : teObs K = teVal
theorem saysK_of {w : World} {h : Heap} (e : obK h.get? = valK w) : SaysK w h (He.frT h.get? (ads h.get?)) := by
  obtain ⟨e1, e2⟩ := Prod.mk.inj e
  obtain ⟨e3, e4⟩ := Prod.mk.inj e1
  obtain ⟨b1, b2⟩ := He.ba e4
  have key : ∀ p ∈ tfA, PySem.W.codeHdIn (He.frT h.get? (ads h.get?)) (He.cT (He.frT h.get? (ads h.get?)) p).1 (He.cT (He.frT h.get? (ads h.get?)) p).2 = true ∧ ∃ o, h.get? (He.cT (He.frT h.get? (ads h.get?)) p).2 = some o ∧ He.emptyTab o = true := by
    intro p hp
    obtain ⟨k1, k2⟩ := He.ba (List.all_eq_true.mp b2 p hp)
    split at k2
    · rename_i o ho
      exact ⟨k1, o, ho, k2⟩
    · cases k2
  refine ⟨⟨e3, b1, fun p hp => (key p hp).1, fun p hp => ?_, fun p hp => ?_⟩, e2⟩
  · obtain ⟨_, o, ho, hz⟩ := key p hp
    exact He.frT_none ho hz
  · obtain ⟨_, o, ho, hz⟩ := key p hp
    rw [ho, He.emptyTab_eq hz]
def hkK : PySem.W.Hook where
  α := AlK
  obs := fun s => obK s.heap.get?
  val := valK
  says := fun w h => ∃ K : Frag, K.In h ∧ SaysK w h K
  of := fun _ _ e => ⟨_, He.frT_in, saysK_of e⟩
  keeps := fun _ _ _ ⟨K, hK, c⟩ k => ⟨K, hK.keeps k, ⟨⟨c.x.t, c.x.more, c.x.hd, c.x.out, fun p hp => k _ _ (c.x.empty p hp)⟩, c.te⟩⟩
def obT (s : PySem.W.SharedT) : AlK := obK (HandSHeadRun.getT s)
theorem obT_eq (s : PySem.W.SharedT) : obT s = hkK.obs s.abs := congrArg obK (funext (HandSHeadRun.getT_eq s))
end K31
/-! K31, the head 2: the written part is run, in the kernel. -/
namespace K31
open PySem PySem.Spec PyProof.Rows L2 GxR
def nmH1 : List Str := [Str.ofString "SkyError", Str.ofString "TextError", Str.ofString "LONGEST_NAME", Str.ofString "CAPITALS", Str.ofString "NAME_CHARACTERS", Str.ofString "is_name", Str.ofString "MOST_DIGITS", Str.ofString "DIGITS", Str.ofString "is_number", Str.ofString "is_signed", Str.ofString "Words", Str.ofString "WORDS_OF_CHANGES", Str.ofString "END_OF_PART", Str.ofString "change_text", Str.ofString "clearance_text", Str.ofString "read_change", Str.ofString "read_clearance_words", Str.ofString "LONG", Str.ofString "SHORT", Str.ofString "message_text", Str.ofString "read_message_words", Str.ofString "request_text", Str.ofString "read_request_words", Str.ofString "BETWEEN", Str.ofString "enter_text", Str.ofString "say_text", Str.ofString "solve_text", Str.ofString "hear_text", Str.ofString "give_text", Str.ofString "pass_text", Str.ofString "advance_text", Str.ofString "WRITERS", Str.ofString "call_text", Str.ofString "read_enter", Str.ofString "read_say"]
def nmH2 : List Str := [Str.ofString "read_solve", Str.ofString "read_hear", Str.ofString "read_give", Str.ofString "read_pass", Str.ofString "read_advance", Str.ofString "READERS", Str.ofString "read_call", Str.ofString "MODULUS", Str.ofString "text_sum", Str.ofString "line_of", Str.ofString "journal_text", Str.ofString "read_line", Str.ofString "read_journal", Str.ofString "_law_start", Str.ofString "_law_draw", Str.ofString "_law_pick", Str.ofString "_law_is_number", Str.ofString "_law_is", Str.ofString "_law_name", Str.ofString "_law_number", Str.ofString "_law_change", Str.ofString "_law_clearance", Str.ofString "_law_message", Str.ofString "_law_any_request", Str.ofString "_law_call", Str.ofString "_law_change_words", Str.ofString "_law_clearance_words", Str.ofString "_law_message_words", Str.ofString "_law_request_words", Str.ofString "_law_joined", Str.ofString "_law_call_words", Str.ofString "_law_sum", Str.ofString "_law_line"]
def nmH : List Str := nmH1 ++ nmH2
def RunP (w : World) : Prop := HandSHeadRun.RunEq Rr (PySem.W.view Rr.prog [77]) hkK obT 3500 nmH w
theorem run_f (w : World) : RunP (w.withFollow "special-get-raises" false) := by
  intro os
  kernel_rfl
theorem run_t (w : World) : RunP (w.withFollow "special-get-raises" true) := by
  intro os
  kernel_rfl
theorem run_h (w : World) : RunP w := PySem.W.byRow2 "special-get-raises" run_f run_t w
end K31
/-! K31, the head 3: the facts by name; every def's promise. -/
namespace K31
open PySem PySem.Spec PyProof.Rows L2 GxR
open PySem.W (Frag)
theorem fun_of {K : Frag} {x q : Str} {st : Stmt} {f : Addr} {fd : FuncData} (F : FunD K x q (defArgs st) (defBody st) (defScope st) [] [] f fd) : Fun K x q st f fd := by
  obtain ⟨oc, od, dV, kV, doc, pm, an, cdv, ct, osl, e, lk, cin, hD, _⟩ := F.ex
  rcases hD with ⟨_, rfl⟩ | ⟨z, _⟩
  · exact ⟨⟨oc, od, kV, doc, pm, an, cdv, ct, osl, e, lk, cin⟩, F.kp⟩
  · exact absurd rfl z
section
variable {w : World} {h : Heap} {K : Frag} {mg : Str → Option Value}
/-- the rest of faA -/
abbrev faT : List He.Fa := [.int "LONGEST_NAME" 5, .int "MOST_DIGITS" 9, .int "MODULUS" 9973, .str "CAPITALS" "ABCDEFGHIJKLMNOPQRSTUVWXYZ", .str "NAME_CHARACTERS" "ABCDEFGHIJKLMNOPQRSTUVWXYZ0123456789", .str "DIGITS" "0123456789", .str "END_OF_PART" "/", .str "BETWEEN" " / ",
   .glo "Words", .glo "TextError", .glo "WORDS_OF_CHANGES", .glo "LONG", .glo "SHORT", .glo "WRITERS", .glo "READERS", .cls "Words", .mkr "Words", .noat "Words" "_words", .noat "Words" "_at", .noat "TextError" "at", .keep "TextError", .exm "TextError" "TextError" true]
theorem SaysK.t (c : SaysK w h K) (i : Nat) {f : He.Fa} (e : faT[i]? = some f) : f.ok K = true :=
  c.x.t.d.facts (f := f) (List.mem_append_right _ (List.mem_append_right _ (List.mem_append_right _ (List.mem_of_getElem? (i := i) e))))
theorem SaysK.ex (c : SaysK w h K) (i : Nat) {b : Bool} (e : (exL K)[i]? = some b) : b = true := List.all_eq_true.mp (show (exL K).all id = true from c.x.more) b (List.mem_of_getElem? e)
theorem SaysK.df (c : SaysK w h K) (X : K.In h) (G : h.Ns mainGlobals mg) (i : Nat) {x : Str} {st : Stmt} (e : fnD[i]? = some (dD x st)) : Df K mg x st := by
  have m := List.mem_of_getElem? e
  obtain ⟨fd, F⟩ := c.x.t.d.defs (d := dD x st) (List.mem_append_left _ m)
  have g := He.glo_ok X G (x := x) (c.x.t.d.facts (List.mem_append_left _ (List.mem_map.mpr ⟨_, m, rfl⟩)))
  exact ⟨_, fd, g, fun_of F⟩
theorem SaysK.mf (c : SaysK w h K) (i : Nat) {m q : Str} {st : Stmt} (e : fnM[i]? = some (dM m q st)) : Mf K (He.ga K "Words") m q st := by
  have z := List.mem_of_getElem? e
  obtain ⟨fd, F⟩ := c.x.t.d.defs (d := dM m q st) (List.mem_append_right _ z)
  exact ⟨_, fd, He.meth_ok (x := "Words") (m := m) (c.x.t.d.facts (List.mem_append_right _ (List.mem_append_left _ (List.mem_map.mpr ⟨_, z, rfl⟩)))), fun_of F⟩
theorem SaysK.gl (c : SaysK w h K) (X : K.In h) (G : h.Ns mainGlobals mg) (i : Nat) {x : Str} (e : faT[i]? = some (.glo x)) : mg x = some (.ref (He.ga K x)) := He.glo_ok X G (c.t i e)
/-- a def whose code object's table is told -/
theorem SaysK.dc (c : SaysK w h K) (X : K.In h) (G : h.Ns mainGlobals mg) {base : Heap} (tb : ∀ p ∈ tfA.map (He.cT K), TabB base mg p.1 p.2) (i j : Nat) {x : Str} {st : Stmt} (e : fnD[i]? = some (dD x st)) (e2 : tfA[j]? = some (x, none)) : Dc K mg base x st (He.cT K (x, none)).2 := by
  have m := List.mem_of_getElem? e
  obtain ⟨fd, F⟩ := c.x.t.d.defs (d := dD x st) (List.mem_append_left _ m)
  have g := He.glo_ok X G (x := x) (c.x.t.d.facts (List.mem_append_left _ (List.mem_map.mpr ⟨_, m, rfl⟩)))
  obtain ⟨⟨oc, od, kV, doc, pm, an, cdv, ct, osl, rfl, lk, cin⟩, kp⟩ := fun_of F
  obtain ⟨cc, rfl⟩ := He.codeIn_ref cin
  have ec : He.codeOf K (x, none) = cc := He.codeOf_eq lk rfl
  have t := tb (He.cT K (x, none)) (List.mem_map.mpr ⟨_, List.mem_of_getElem? e2, rfl⟩)
  have t2 : TabB base mg cc (He.cT K (x, none)).2 := by
    rw [← ec]
    exact t
  exact ⟨_, cc, oc, od, kV, doc, pm, an, ct, osl, g, kp, lk, cin, t2⟩
theorem sd_of {K : Frag} {x : Str} {yes : List (Str × Str)} {no : List Str} (hm : mg x = some (.ref (He.ga K x))) (hd : ∃ es n, KDict K w (He.ga K x) es n) (b : sdB K x yes no = true) : SD K w mg x yes no := by
  obtain ⟨b1, b2⟩ := He.ba b
  refine ⟨_, hm, hd, fun p hp => ?_, fun z hz => He.eqO_ok (List.all_eq_true.mp b2 z hz)⟩
  have q := List.all_eq_true.mp b1 p hp
  split at q
  · rename_i y t e
    rw [of_decide_eq_true q] at e
    exact ⟨t, e⟩
  · cases q
theorem fd_of {K : Frag} {x : Str} {l : List (Str × Str)} (hm : mg x = some (.ref (He.ga K x))) (hd : ∃ es n, KDict K w (He.ga K x) es n) (b : fdB K x l = true) (g : ∀ p ∈ l, mg p.2 = some (.ref (He.ga K p.2))) : FD K w mg x l :=
  ⟨_, hm, hd, fun p hp => ⟨_, He.eqO_ok (List.all_eq_true.mp b p hp), g p hp⟩⟩
theorem te_fn (te : teObs K = teVal) (b : fdB2 K = true) : ∃ (oc : Value) (od : Option Addr) (kV doc pm : Value) (an : Option Addr) (ct : Value) (osl : Array (Option Value)),
    K.lookup (fTE K) = some ⟨oc, od, .func (PySem.W.fnX "__init__" "TextError.__init__" (defArgs s_TE) (defBody s_TE) (defScope s_TE) [("__class__", ccTE K)] .none kV doc pm an (.ref (cdTE K)) ct), osl⟩ := by
  have ⟨oc, od, fd, osl, lk, hf⟩ : ∃ oc od fd osl, K.lookup (fTE K) = some ⟨oc, od, .func fd, osl⟩ ∧ fdTE K = some fd := by
    cases q : fdTE K with
    | none =>
      unfold teObs at te
      rw [q] at te
      cases te
    | some fd =>
      unfold fdTE at q
      split at q
      · rename_i oc od fd' osl lk
        cases q
        exact ⟨oc, od, _, osl, lk, rfl⟩
      · cases q
  have ecc : ccTE K = (fd.closure.getD 0 ("", 0)).2 := by
    unfold ccTE
    rw [hf]
  have ecd : cdTE K = (match fd.code with
    | .ref c => c
    | _ => 0) := by
    unfold cdTE
    rw [hf] <;> rfl
  unfold teObs at te
  rw [hf] at te
  unfold fdB2 at b
  rw [hf] at b
  obtain ⟨b1, b2⟩ := He.ba b
  obtain ⟨n1, n2, n3, n4, n5, n6, n7, n8, n9, n10, n11, n12, n13, n14, n15⟩ := fd
  have te2 : (some (n1, n2, n3, n4, n5, n6, n7.map (·.1), n15) : TeV) = (some ("__init__", "TextError.__init__", defArgs s_TE, .stmts (defBody s_TE), defScope s_TE, mainGlobals, ["__class__"], builtinsNs) : TeV) := te
  simp only [Option.some.injEq, Prod.mk.injEq] at te2
  obtain ⟨h1, h2, h3, h4, h5, h6, h7, h8⟩ := te2
  have e8 : n8 = .none := by
    cases n8 with
    | none => rfl
    | _ => cases b1
  obtain ⟨c, e13⟩ : ∃ c, n13 = .ref c := by
    cases n13 with
    | ref c => exact ⟨c, rfl⟩
    | _ => cases b2
  obtain ⟨c2, e7⟩ : ∃ c2 : Addr, n7 = [((Str.ofString "__class__" : Str), c2)] := by
    cases n7 with
    | nil => cases h7
    | cons y r =>
      obtain ⟨y1, y2⟩ := y
      obtain ⟨z1, z2⟩ := List.cons.inj h7
      cases r with
      | nil => exact ⟨y2, by rw [show y1 = Str.ofString "__class__" from z1]⟩
      | cons _ _ => cases z2
  subst h1 h2 h3 h4 h5 h6 h8 e8 e13 e7
  rw [ecc, ecd]
  exact ⟨oc, od, n9, n10, n11, n12, n14, osl, lk⟩
theorem te_cls (b : clsB K = true) : ∃ nm q N bs bm sn sub ab col dd k0 k1 k2 k3 k5, K.lookup (cTE K) = some (excClassObj nm q (cTE K) N bs bm true sn sub ab col dd k0 k1 k2 k3 k5 "ValueError.__new__") ∧ PySem.HandSPX.refsVE bm = true := by
  unfold clsB at b
  split at b
  · rename_i dd cd sl ho
    split at b
    · rename_i C' bm k0 k1 k2 k3 n k5 hm hs
      simp only [Bool.and_eq_true, beq_iff_eq, Bool.not_eq_true'] at b
      obtain ⟨c1, c2, c3, c4, c5⟩ := b
      obtain ⟨nm, bs, mro, ns, qn, hd, sn, sub, ab, col, del⟩ := cd
      dsimp only at hm c3 c4
      subst hm c3 c4 c1 c2
      have es : sl = #[k0, k1, k2, k3, some (.builtin "ValueError.__new__"), k5] := Array.toList_inj.mp hs
      subst es
      exact ⟨nm, qn, ns, bs, bm, sn, sub, ab, col, dd, k0, k1, k2, k3, k5, ho, c5⟩
    · cases b
  · cases b
end
end K31
/-! K31, the head 4: all that the law calls. -/
namespace K31
open PySem PySem.Spec PyProof.Rows L2 GxR
open PySem.W (Frag)
def adK (K : Frag) : Ad := ⟨cTE K, He.ga K "Words", fTE K, ccTE K, cdTE K, (He.cT K ("is_name", none)).2, (He.cT K ("is_number", none)).2, (He.cT K ("text_sum", none)).2⟩
section
variable {w : World} {h base : Heap} {K : Frag} {mg : Str → Option Value}
theorem SaysK.te_ok (c : SaysK w h K) (X : K.In h) : TeTxt K (cTE K) (fTE K) (ccTE K) (cdTE K) where
  cls := te_cls (c.ex 0 rfl)
  sa := He.eqO_ok (c.ex 1 rfl)
  noN := He.noat_ok (x := "TextError") (f := "at") (c.t 19 rfl)
  iC := He.eqO_ok (c.ex 2 rfl)
  tC := of_decide_eq_true (c.ex 3 rfl)
  kC := He.keep_ok (x := "TextError") (c.t 20 rfl)
  exC := of_decide_eq_true (c.ex 4 rfl)
  veC := of_decide_eq_true (c.ex 5 rfl)
  tyC := of_decide_eq_true (c.ex 6 rfl)
  te := He.exm_ok (x := "TextError") (y := "TextError") (c.t 21 rfl)
  su := He.eqO_ok (c.ex 7 rfl)
  mr := of_decide_eq_true (c.ex 8 rfl)
  ns := He.eqO_ok (c.x.t.d.facts (f := .free "super") (List.mem_append_right _ (List.mem_append_right _ (List.mem_append_left _ (List.mem_map.mpr ⟨"super", List.mem_of_getElem? (i := 0) rfl, rfl⟩)))))
  op := He.eqO_ok (c.ex 9 rfl)
  cell := by
    have b := c.ex 10 rfl
    unfold cellB at b
    split at b
    · rename_i cl cld C' csl e
      rw [beq_iff_eq.mp b] at e
      exact ⟨cl, cld, csl, e⟩
    · cases b
  code := by
    have b := c.ex 11 rfl
    unfold codeB at b
    split at b
    · rename_i ccl cdd vs ccs e
      split at b
      · rename_i file tf e2
        exact ⟨ccl, cdd, vs, ccs, file, tf, e, e2, b⟩
      · cases b
    · cases b
  cdq := c.ex 12 rfl
  fn := te_fn c.te (c.ex 13 rfl)
theorem SaysK.tt (c : SaysK w h K) (X : K.In h) (G : h.Ns mainGlobals mg) (tb : ∀ p ∈ tfA.map (He.cT K), TabB base mg p.1 p.2) : TT (adK K) K mg base where
  te := c.te_ok X
  gTE := c.gl X G 9 rfl
  bl := fun x hx => He.free_ok X G (c.x.t.d.facts (List.mem_append_right _ (List.mem_append_right _ (List.mem_append_left _ (List.mem_map.mpr ⟨x, hx, rfl⟩)))))
  cW := He.cls_ok (x := "Words") (c.t 15 rfl)
  gW := c.gl X G 8 rfl
  mkW := (He.mkr_ok (x := "Words") (c.t 16 rfl)).makes
  kpW := (He.mkr_ok (x := "Words") (c.t 16 rfl)).kp
  nW := He.noat_ok (x := "Words") (c.t 17 rfl)
  nA := He.noat_ok (x := "Words") (c.t 18 rfl)
  iLN := He.int_ok X G (c.t 0 rfl)
  iMD := He.int_ok X G (c.t 1 rfl)
  iMO := He.int_ok X G (c.t 2 rfl)
  sCA := He.str_ok X G (c.t 3 rfl)
  sNC := He.str_ok X G (c.t 4 rfl)
  sDI := He.str_ok X G (c.t 5 rfl)
  sEP := He.str_ok X G (c.t 6 rfl)
  sBE := He.str_ok X G (c.t 7 rfl)
  cName := c.dc X G tb 0 0 rfl rfl
  cNum := c.dc X G tb 1 1 rfl rfl
  cSum := c.dc X G tb 27 2 rfl rfl
theorem SaysK.lw (c : SaysK w h K) (X : K.In h) (G : h.Ns mainGlobals mg) (T : TT (adK K) K mg base) : Lw w K mg base (adK K) := by
  have SC : SD K w mg "WORDS_OF_CHANGES" chT [] := sd_of (c.gl X G 10 rfl) (c.x.t.tab 0 rfl) (c.ex 14 rfl)
  have SL : SD K w mg "LONG" lgT ["ask", "taken", "not"] := sd_of (c.gl X G 11 rfl) (c.x.t.tab 1 rfl) (c.ex 15 rfl)
  have SS : SD K w mg "SHORT" shT [] := sd_of (c.gl X G 12 rfl) (c.x.t.tab 2 rfl) (c.ex 16 rfl)
  have gf : ∀ (x : Str), (∃ d ∈ fnD, d.name = x) → mg x = some (.ref (He.ga K x)) := fun x ⟨d, hd, e⟩ => He.glo_ok X G (c.x.t.d.facts (List.mem_append_left _ (List.mem_map.mpr ⟨d, hd, by rw [e]⟩)))
  have at_ : ∀ (x : Str) (i : Nat) {d : He.DefD}, fnD[i]? = some d → d.name = x → mg x = some (.ref (He.ga K x)) := fun x i d h1 h2 => gf x ⟨d, List.mem_of_getElem? h1, h2⟩
  have FW : FD K w mg "WRITERS" wrT := fd_of (c.gl X G 13 rfl) (c.x.t.tab 3 rfl) (c.ex 17 rfl) (all_cons (at_ _ 11 rfl rfl) (all_cons (at_ _ 12 rfl rfl) (all_cons (at_ _ 13 rfl rfl) (all_cons (at_ _ 14 rfl rfl) (all_cons (at_ _ 15 rfl rfl) (all_cons (at_ _ 16 rfl rfl) (all_cons (at_ _ 17 rfl rfl) all_nil)))))))
  have FR : FD K w mg "READERS" rdT := fd_of (c.gl X G 14 rfl) (c.x.t.tab 4 rfl) (c.ex 18 rfl) (all_cons (at_ _ 19 rfl rfl) (all_cons (at_ _ 20 rfl rfl) (all_cons (at_ _ 21 rfl rfl) (all_cons (at_ _ 22 rfl rfl) (all_cons (at_ _ 23 rfl rfl) (all_cons (at_ _ 24 rfl rfl) (all_cons (at_ _ 25 rfl rfl) all_nil)))))))
  have D := fun (i : Nat) {x : Str} {st : Stmt} (e : fnD[i]? = some (dD x st)) => c.df X G i e
  have M := fun (i : Nat) {m q : Str} {st : Stmt} (e : fnM[i]? = some (dM m q st)) => c.mf i e
  have nx := M 3 rfl
  have Mm : Ms w K mg base (adK K) := ⟨ok_left T (M 1 rfl), ok_coming T (M 2 rfl), ok_next T nx, ok_choice T nx (M 4 rfl), ok_wname T nx (M 5 rfl), ok_wnum T nx (M 6 rfl), ok_wsgn T nx (D 2 rfl) (M 7 rfl), ok_end T (M 8 rfl)⟩
  have rc := D 5 rfl
  have rl := D 6 rfl
  have rm := D 8 rfl
  have R : Rs w K mg base (adK K) := ⟨ok_read_enter T Mm (D 10 rfl) (D 19 rfl), ok_read_say T Mm rc (D 20 rfl), ok_read_solve T Mm rc (D 21 rfl), ok_read_hear T Mm SL rc rl rm (D 22 rfl), ok_read_give T Mm (D 23 rfl), ok_read_pass T Mm (D 24 rfl), ok_read_advance T Mm (D 25 rfl)⟩
  have call := ok_read_call T Mm R FR (M 0 rfl) (D 26 rfl)
  have ct := D 3 rfl
  have lt := D 4 rfl
  have W : Ws w K mg base := ⟨ok_enter_text T (D 9 rfl) (D 11 rfl), ok_say_text T SC ct (D 12 rfl), ok_solve_text T SC ct (D 13 rfl), ok_hear_text T SC SL SS ct lt (D 7 rfl) (D 14 rfl), ok_give_text (D 15 rfl), ok_pass_text (D 16 rfl), ok_advance_text T (D 17 rfl)⟩
  have text := ok_call_text T W FW (D 18 rfl)
  have dr := D 33 rfl
  have Q : Dr w K mg base := ⟨ok_draw T dr, ok_pick T dr (D 34 rfl), ok_lname T dr (D 35 rfl), ok_lnumber T dr (D 34 rfl) (D 36 rfl)⟩
  have lc := D 37 rfl
  have Q2 : Dr2 w K mg base := ⟨Q, ok_lchange T Q lc, ok_lmessage T Q lc (D 38 rfl) (D 39 rfl), ok_lrequest T Q (D 40 rfl)⟩
  have cw := D 42 rfl
  have O : Wo w K mg base := ⟨ok_chgw T cw, ok_msgw T cw (D 43 rfl) (D 44 rfl), ok_reqw T (D 45 rfl), ok_joined T (D 46 rfl)⟩
  have ws := ok_calw T O (D 47 rfl)
  have line := ok_read_line T call (D 30 rfl)
  exact ⟨ok_start T (D 32 rfl), ok_draw T dr, ok_lcall T Q2 (D 41 rfl), ok_lline T ws (D 48 rfl) (D 49 rfl), ws, ok_lsum T (D 48 rfl), ok_journal_text T text (D 28 rfl) (D 29 rfl), ok_read_journal T line (D 31 rfl), ok_line_of T text (D 28 rfl), line, ok_text_sum T⟩
end
end K31
/-! K31: the law holds. -/
namespace K31
open PySem PySem.Spec PyProof.Rows L2 GxR
theorem room_law : Room 32 callerA := ⟨rfl, by decide, by decide⟩
abbrev dLaw : DefRec := HandSHeadRun.topDef Rr.prog 77
theorem dLaw_name : dLaw.name = ("law" : Str) := by kernel_rfl
theorem walk_law : PySem.W.WalkO (PySem.W.view Rr.prog [77]) nmH (PySem.W.XL (PySem.W.view Rr.prog [77]) []) hkK.says Rr.toRowW dLaw [] (fun f vs => PySem.call f vs) := by
  refine Att.attach_callB (l := Rw) (n := 63) rfl (by kernel_rfl) fun w s0 s1 mg mb fa o pm cd doc sa vs ns G Y ho hd hcd hmg hobj hints hlen hbits hg => ?_
  obtain ⟨K, X, c⟩ := Y
  have hm : mg ("law" : Str) = some (.ref fa) := by
    rw [← dLaw_name]
    exact hmg
  obtain ⟨f, fd, mf, F⟩ := c.df X G.T.g 50 (x := "law") (st := s_law) rfl
  rw [hm] at mf
  cases mf
  have bi := F.binds (ps := psL) (fun _ _ _ _ _ _ us hl => match us, hl with | [_], _ => rfl) s1 [.ref sa] X rfl
  have ev : ∀ {Pp : Addr × Addr → Prop}, (∀ p ∈ tfA, Pp (He.cT K p)) → ∀ p ∈ tfA.map (He.cT K), Pp p := fun {Pp} q p hp => by
    obtain ⟨z, hz, e⟩ := List.mem_map.mp hp
    rw [← e]
    exact q z hz
  have EH : EndH K mg mb s1 sa vs ns (tfA.map (He.cT K)) := ⟨X, G.T.g, G.T.b, G.T.builtins, G.T.nolimit, hg, ev (Pp := fun p => s1.heap.get? p.2 = some { cls := .none, data := .fields #[] }) c.x.empty, ev (Pp := fun p => K.lookup p.2 = none) c.x.out,
    ev (Pp := fun p => PySem.W.CodeHd s1.heap p.1 p.2) (fun p hp => PySem.W.codeHd_of_K X (c.x.hd p hp)), G.T.bmain, hobj, hints, Nat.le_trans hlen (by rw [sizeLine_eq]; decide)⟩
  refine law_end (a := adK K) EH room_law (fun base _ tb => ?_) F bi (Nat.le_trans hlen (by decide)) fun H t => ?_
  · have T := c.tt X G.T.g tb
    exact ⟨T, c.lw X G.T.g T⟩
  · have tg : ∀ i {p : He.Defn}, tfA[i]? = some p → TabG H (He.cT K p).2 := fun i {p} e => ⟨#[], t _ (List.mem_map.mpr ⟨p, List.mem_of_getElem? e, rfl⟩), by first | trivial | decide | simp [TriplesOk]⟩
    exact ⟨tg 0 rfl, tg 1 rfl, tg 2 rfl⟩
end K31
open PySem PySem.W PySem.Calls PyProof.Rows
theorem PySem.Challenge.cw_skyapart_k31_whole_journal_cut_anywhere_holds : PySem.Challenge.rw_skyapart_k31_whole_journal_cut_anywhere.Holds := by
  w_on; o_law
  refine HandSHeadRun.head_any (r := K31.Rr) (q := view K31.Rr.prog [77]) (H := K31.hkK) (ob := K31.obT) (M := 3500) (loose := K31.nmH) (d := K31.dLaw) (kwd := []) K31.obT_eq
    (by kernel_rfl) (fun s => by kernel_rfl) K31.run_h (by kernel_rfl) (by kernel_rfl) (by kernel_rfl) (by rfl) (by first | assumption | decide +kernel) (by decide +kernel) ⟨rfl, rfl, rfl, rfl, rfl, by decide +kernel⟩ ?hw ?hc
  case hw => w_witness2
  case hc => exact K31.walk_law
