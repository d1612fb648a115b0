import PyProof.Rows.All
import Wide.All
import OpenK.KSplit
import OpenK.KNot
import OpenK.KApp
import KE.KPop
import KE.KListMore
import KE.RegKMod
import KE.KDictOf
import KE.KDictMeth
import KE.KEqSeq
import KE.KSlice
import KE.GnPush
import KE.KSorted
import KE.KJoinElse
import KE.RegTryLedger
import KE.KTops
import KE.RegKSuper
import KE.KSort
import KE.KDictLoop
import KE.RegLcTurns
import KE.RegLcAnyAll
import KE.KCat
import KE.KTemps
import KE.KTup
import KE.KxMul
import KE.KxSplit
import KE.KxIndex
import KE.KxText
import KE.KCells
import KE.KPassesOwn
import KE.RegKIsNot
import KE.KTempsTwo
import KE.KSetInts
import KE.KSortedL
import KE.KxBytes
import KE.KClos
import KE.KNestStore
import KE.KOwnIter
import KE.KStopIter
import KE.RegKBase
import KE.KDictOne
import KE.RegKMathG
import KE.KDictAny
import KE.RegKCallOwn
import KE.KSliceW
import KE.KxDecode
import KE.RegKMathGB
import KE.KLam
import KE.KDictBranch
import KE.KTree
import KE.KTreeB
import KE.KNestM
import KE.KDflt
import KE.KOwnIterCall
import KE.KSortedM
import KE.KTurns
import KE.KEqText
import KE.KxLen
import KE.RegKMathGC
import KE.KIsClose
import KE.KEqDict
import KE.KDisp
import KE.KDictAnyGet
import KE.KDictObj
import KE.KSetIn
import KE.KRevSl
import KE.KEqDeep
import KE.KAnyBase
import KE.KBoundM
import KE.KWhile
import KE.KRevIter
import KE.KCount
import KE.KTreeR
import KE.KxStill
import KE.KFinally
import KE.KTopLam
import KE.KWithOwn
import KE.KCases
import KE.KOpsOwn
import KE.KDictNew
import KE.KDictList
import KE.KDictIter
import KE.RegKUnpackStar
import KE.KSortAsk
import KE.KWhileD
import KE.KLcTest
import KE.KSumEnd
import KE.KPopAny
import KE.KGrown
import KE.KItemAt
import KE.KTextLit
import KE.KTupDict
import KE.KFmtOwn
import KE.KUnrMore
import KE.KMinKey
import KE.KTurnsDict
import KE.KExtendNil
import KE.KMethU
import KE.BytesMul
import KE.KCompFold
import KE.KDictSum
import KE.KDictName
import KE.KDictSym
import KE.KTurnsAny
import KE.KDictAnyTail
import KE.RegKStar
import KE.RegKParD
import KE.RegKTupTruth
import KE.RegKTupSum
import KE.KCallJoin
import KE.KMethJoin
import KE.KPathRangeEnd
import KE.KStateW
import KE.RegKParC
import KE.KxWritten
import KE.KxAdd
import KE.KxAffix
import KE.KxField
import KE.RegKIsAll
import KE.RegKMatchCls
import KE.KLcPair
import KE.RegKTryDeep
import KE.KJoinL
import KE.RegKNeg
import KE.KxPercentT
import KE.KBytesCut
import KE.KCellOne
import KE.KCompIf
import KE.KMenu
import KE.KxFormat
import KE.KTypeName
import KE.KCompText
import KE.BytesMulAny
import KE.KDictSymLen
import KE.KSortTup
import KE.KPairAssign
import KE.KTypeOf
import KE.KFinEnd
import KE.KMulAny
import KE.KBytesMenu
import KE.KTextDict
import KE.KPathShort
import KE.KSplitRange
import KE.KKinds
import KE.KxPart
import KE.KRangeItem
import KE.KDictLetter
import KE.KRangeNest
import KE.KSetAt
import KE.KWords
import KE.KxTruthy
import KE.KPairRows
import KE.KBytesMore
import KE.RegKStateDown
import KE.KItemsList
import KE.KRangePlain
import KE.KStateGiven
import KE.KBitsMul
import KE.KTextTable
import KE.KForList
import KE.KIdxIf
import KE.KAssignIn
import KE.KFirstTurn
import KE.KOwnRange
import KE.KLooksOwn
import KE.KDictWord
import KE.KStrOpen
import KE.KTurnsGround
import KE.KListEnd
import KE.KSearch
import KE.KFinFacts
import KE.RegKTryOn
import KE.KCenter
import KE.KStrWords
import KE.KStateTextK
import KE.KBools
import KE.KStateWGiven
import KE.KData
import KE.KCallTup
import KE.KTreeD
import KE.KTreeF
import KE.KEndWord
import KE.KStateBytes
import KE.KRangeEnd
import KE.KOf
import KE.KRepItem
import KE.KListLetter
import KE.KSliceSign
import KE.KCallBy
import KE.KToBytes
import KE.KPathText
import KE.KMinBuiltin
import KE.KFromBytes
import KE.KEqDat
import KE.KBytesUnr
import KE.KIsBytes
import KE.KCallRec
import KE.KEndW
import KE.RegLGe
import KE.RegLGeC
import Wide.FinOn
import Lean
import PySem.Challenge.RW_on0075_01
open PySem PySem.W PySem.Calls PyProof.Rows Lean
set_option Elab.async false
set_option compiler.extract_closed false
set_option maxRecDepth 100000
set_option maxHeartbeats 8000000
set_option linter.unusedVariables false
set_option rowWalk.seconds 100000
namespace Mine
local macro_rules | `(tactic| o_head $_:term) => `(tactic| (refine False.elim ?_; assumption))
set_option Elab.async true in
theorem fr (h : False) : PySem.Challenge.rw_on0075_01.Holds := by
  w_on; refine holds_law (False.elim h) (fun said => ?_); k_head
section
variable {prog : Program} {w : World} {A : Around} {E : Value → Shared → Prop} {s : Shared} {h₀ : Heap} {L D : Addr} {m : Str → Option Value} {news news' : List (Addr × Obj)} {n : Nat}
theorem pop0 {x : Value} {r : List Value} {u : Tok} {Q : Value → Shared → Prop} (F : Fr h₀ L s.heap m) (N : News h₀ L s.heap news)
    (U : Upd D (listOf (x :: r).toArray n) (listOf r.toArray (n + 1)) news news') (hz : (x :: r).length ≤ sizeLine)
    (h : ∀ h', Fr h₀ L h' m → News h₀ L h' news' → Q x { s with heap := h' }) : wpAny (model prog w) A (call (.builtin "list.pop") [.ref D, .int 0 u]) Q E s :=
  kl_popAt (its := (x :: r).toArray) (k := 0) (p := []) (q := r) (y := x) F N rfl (by simp [seqIndex?]) rfl U hz h

theorem allNe_of_lt {d : Addr} {own : List (Addr × Obj)} (h : AllLt d own) : ∀ p ∈ own, p.1 ≠ d := fun p hp => Nat.ne_of_lt (kst_ltOf h p hp)
theorem upd_mem {d : Addr} {o o' : Obj} : ∀ {l l' : List (Addr × Obj)}, Upd d o o' l l' → ∀ p ∈ l', p = (d, o') ∨ (p ∈ l ∧ p.1 ≠ d)
  | _, _, .head h, p, hp => by
    rcases List.mem_cons.mp hp with e | hp
    · exact .inl e
    · exact .inr ⟨.tail _ hp, h p hp⟩
  | _, _, .tail h r, p, hp => by
    rcases List.mem_cons.mp hp with e | hp
    · exact .inr ⟨e ▸ .head _, e ▸ h⟩
    · rcases upd_mem r p hp with e | e
      · exact .inl e
      · exact .inr ⟨.tail _ e.1, e.2⟩
theorem upd_old {d : Addr} {o o' : Obj} : ∀ {l l' : List (Addr × Obj)}, Upd d o o' l l' → (d, o) ∈ l
  | _, _, .head _ => .head _
  | _, _, .tail _ r => .tail _ (upd_old r)
end

section
variable {prog : Program} {w : World} {A : Around} {E : Value → Shared → Prop} {s : Shared} {env : Env} {h₀ : Heap} {x : Str} {body : List Stmt} {Q : Flow → Shared → Prop}
/-- a loop over an empty list of the ledger -/
theorem iter_nil {l : Addr} {n : Nat} {m₀ : Str → Option Value} {news : List (Addr × Obj)}
    (hh : A.handled = none) (F : Fr h₀ env.locals s.heap m₀) (N : News h₀ env.locals s.heap news) (hm : (l, listOf #[] n) ∈ news)
    (done : ∀ h tk, Fr h₀ env.locals h m₀ → News h₀ env.locals h news → Q .next { s with heap := h, toks := tk }) :
    wpAny (model prog w) A (pyIter (.ref l)) (fun it s₂ => LoopAtV prog w A h₀ env x body Q E it s₂) E s := by
  have hg := (N _ hm).1
  have hl : s.heap.IsList l #[] := ⟨_, hg, rfl, n, rfl⟩
  have hlt : l < s.heap.objs.size := Heap.lt_size hg
  refine wpAny_pyIter_list hl ?_
  have W := Walks.list (prog := prog) (w := w) hh s.heap.objs.size l (Nat.ne_of_lt hlt) #[]
  refine ⟨_, _, _, 0, _, _, m₀, news, fun _ m₁ n₁ => m₁ = m₀ ∧ n₁ = news, rfl, W, ?_, ?_, ?_, ⟨⟨_, Heap.get?_push_size _ rfl, rfl, rfl⟩, hl.at fun o e => Heap.get?_push_of_some _ e⟩, F.push _, (fun p hp => ⟨Heap.get?_push_of_some _ (N p hp).1, (N p hp).2⟩), ⟨rfl, rfl⟩, ?_, ?_⟩
  · intro hm'
    rcases List.mem_cons.mp hm' with e | hm'
    · exact absurd F.ns.lt (e ▸ Nat.lt_irrefl _)
    · exact (N _ hm).2.1 (List.mem_singleton.mp hm').symm
  · intro b hb
    rw [List.mem_singleton.mp hb]
    exact next_is_new F
  · intro p hp hI
    exact absurd (Heap.lt_size (N p hp).1) ((List.mem_singleton.mp hI) ▸ Nat.lt_irrefl _)
  · intro i v m₁ news₁ s₁ own _ hi
    exact absurd hi (Nat.not_lt_zero _)
  · rintro h' tk m' news' F' N' _ ⟨rfl, rfl⟩
    exact done h' tk F' N'
end

section
variable {prog : Program} {w : World} {A : Around} {E : Value → Shared → Prop} {s : Shared} {h₀ : Heap} {L d : Addr} {m : Str → Option Value} {news : List (Addr × Obj)} {Q : Value → Shared → Prop}
/-- sorted of an empty dict -/
theorem sorted_nil {o : Obj} (hh : A.handled = none) (F : Fr h₀ L s.heap m) (N : News h₀ L s.heap news) (hm : (d, o) ∈ news) (lo : (d == sysModules) = false) (hd : Obj.IsDictOf (PySem.intKind prog w) o [])
    (h : ∀ (D : Addr) (n : Nat) (h' : Heap) (tk : Nat), Fr h₀ L h' m → News h₀ L h' ((D, listOf #[] n) :: news) → (∀ q ∈ news, q.1 < D) → Q (.ref D) { s with heap := h', toks := tk }) :
    wpAny (model prog w) A (call (.builtin "sorted") [.ref d]) Q E s := by
  refine kdu_sortedD (knd := PySem.intKind _ _) (enc := PyData.int) (D := []) (fun _ _ => kdl_flat_int) hh F N (TabAt.ofNews N hm lo hd PyProof.V.FlatPairs.nil) (Nat.zero_le _) ?_
  intro D h' tk F' N' l1
  refine ksk_lsort (news' := fun o => (D, o) :: news) (vs := []) (ns := []) F' N' (fun o => Upd.head fun p hp => Nat.ne_of_lt (l1 p hp)) rfl .nil (by decide) fun vs' ns' c h'' F'' N'' hi hl _ _ _ => ?_
  have e : vs' = [] := List.eq_nil_of_length_eq_zero (by rw [hi.length, hl]; rfl)
  subst e
  exact h D c h'' tk F'' N'' l1
end
/-- a ledger apart from two of its objects -/
def less2 (a b : Addr) (news : List (Addr × Obj)) : List (Addr × Obj) := news.filter fun p => p.1 != a && p.1 != b
theorem less2_mem {a b : Addr} {news : List (Addr × Obj)} {p : Addr × Obj} : p ∈ less2 a b news ↔ p ∈ news ∧ p.1 ≠ a ∧ p.1 ≠ b := by
  unfold less2
  rw [List.mem_filter, Bool.and_eq_true, bne_iff_ne, bne_iff_ne]
theorem less2_in {a b x : Addr} {o : Obj} {news : List (Addr × Obj)} (h : (x, o) ∈ news) (ha : @Ne Nat x a) (hb : @Ne Nat x b) : (x, o) ∈ less2 a b news := less2_mem.mpr ⟨h, ha, hb⟩
section
variable {h₀ h h' : Heap} {L a b : Addr} {oa ob oa' ob' : Obj} {news : List (Addr × Obj)} {news₁ : Obj → List (Addr × Obj)} {news₂ : Obj → Obj → List (Addr × Obj)}
theorem two_ne (U1 : ∀ o', Upd a oa o' news (news₁ o')) (U2 : ∀ o₁ o', Upd b ob o' (news₁ o₁) (news₂ o₁ o')) (o₁ : Obj) (hk : o₁ ≠ ob) : @Ne Nat a b := fun e => by
  rcases upd_mem (U1 o₁) _ (upd_old (U2 o₁ ob)) with q | q
  · exact hk (Prod.mk.inj q).2.symm
  · exact q.2 e.symm
theorem two_in (U1 : ∀ o', Upd a oa o' news (news₁ o')) (U2 : ∀ o₁ o', Upd b ob o' (news₁ o₁) (news₂ o₁ o')) (hab : @Ne Nat a b) (N : News h₀ L h news) : News h₀ L h ((a, oa) :: (b, ob) :: less2 a b news) := by
  intro p hp
  rcases List.mem_cons.mp hp with rfl | hp
  · exact N _ (upd_old (U1 oa))
  · rcases List.mem_cons.mp hp with rfl | hp
    · rcases upd_mem (U1 oa) _ (upd_old (U2 oa ob)) with q | q
      · exact absurd (Prod.mk.inj q).1 (Ne.symm hab)
      · exact N _ q.1
    · exact N _ (less2_mem.mp hp).1
theorem two_out (U1 : ∀ o', Upd a oa o' news (news₁ o')) (U2 : ∀ o₁ o', Upd b ob o' (news₁ o₁) (news₂ o₁ o')) (N : News h₀ L h' ((a, oa') :: (b, ob') :: less2 a b news)) : News h₀ L h' (news₂ oa' ob') := by
  intro p hp
  rcases upd_mem (U2 _ _) p hp with e | ⟨e, ec⟩
  · rw [e]; exact N _ (.tail _ (.head _))
  · rcases upd_mem (U1 _) p e with e | ⟨e, ed⟩
    · rw [e]; exact N _ (.head _)
    · exact N _ (.tail _ (.tail _ (less2_mem.mpr ⟨e, ed, ec⟩)))
end
local macro_rules | `(tactic| k_all) => `(tactic| with_reducible assumption)

local macro_rules | `(tactic| walk_at "callWith ref") => `(tactic| (k_here; (fail_if_success (fail_if_success (with_reducible show wpAny _ _ (callWith _ _ _ (backTo _ (starEach [] _)) []) _ _ _))); (refine' callWith_K0 ?k1 ?k2 ?_; (case k1 => exact Frag.In.keeps (by with_reducible assumption) (Fr.keep (by with_reducible assumption))); (case k2 => k_dflt k_is); k_whole)))


section
variable {prog : Program} {w : World} {A : Around} {E : Value → Shared → Prop} {s : Shared} {h₀ : Heap} {L D : Addr} {m : Str → Option Value} {news news' : List (Addr × Obj)}
theorem mm_take (a b v : Nat) : min a v + (v - max a b) ≤ v := by
  rcases Nat.le_total a v with h | h
  · rw [Nat.min_eq_left h]
    exact Nat.le_trans (Nat.add_le_add_left (Nat.sub_le_sub_left (Nat.le_max_left a b) v) a) (Nat.le_of_eq (Nat.add_sub_of_le h))
  · rw [Nat.min_eq_right h, Nat.sub_eq_zero_of_le (Nat.le_trans h (Nat.le_max_left a b))]
    exact Nat.le_refl _
theorem mm_bound {x : Int} {n : Nat} (hx : 0 ≤ x) : max 0 (min x (n : Int)) = ((min x.toNat n : Nat) : Int) := by
  obtain ⟨k, rfl⟩ := Int.eq_ofNat_of_zero_le hx
  rw [Int.toNat_natCast]
  rcases Nat.le_total k n with h | h
  · rw [Int.min_eq_left (Int.ofNat_le.mpr h), Nat.min_eq_left h]
    exact Int.max_eq_right (Int.natCast_nonneg _)
  · rw [Int.min_eq_right (Int.ofNat_le.mpr h), Nat.min_eq_right h]
    exact Int.max_eq_right (Int.natCast_nonneg _)
theorem mm_max (a b : Nat) : (max (a : Int) (b : Int)).toNat = max a b := by
  rcases Nat.le_total a b with h | h
  · rw [Int.max_eq_right (Int.ofNat_le.mpr h), Nat.max_eq_right h, Int.toNat_natCast]
  · rw [Int.max_eq_left (Int.ofNat_le.mpr h), Nat.max_eq_left h, Int.toNat_natCast]
/-- xs[x:y] = us on bare arrays -/
theorem splice_eq (vs us : List Value) (x y : Nat) :
    vs.toArray.extract 0 (min x vs.length) ++ us.toArray ++ vs.toArray.extract (max (min x vs.length) (min y vs.length)) vs.length = (vs.take x ++ us ++ vs.drop (max x y)).toArray := by
  apply Array.toList_inj.mp
  simp only [Array.toList_append, Array.toList_extract, List.extract_eq_take_drop, List.drop_zero, Nat.sub_zero]
  rw [← List.take_eq_take_min, ← Nat.min_max_distrib_right, ← List.drop_eq_drop_min]
  congr 1
  refine List.take_of_length_le ?_
  rw [List.length_drop]
  rcases Nat.le_total (max x y) vs.length with h | h
  · rw [Nat.min_eq_left h]
    exact Nat.le_refl _
  · rw [Nat.sub_eq_zero_of_le h]
    exact Nat.zero_le _

theorem set_slice {V : Addr} {vs us : List Value} {n k n' : Nat} {vl vu : Value} {x y : Int} {Q : Unit → Shared → Prop} (F : Fr h₀ L s.heap m) (N : News h₀ L s.heap news)
    (pl : IsPart vl (some x)) (pu : IsPart vu (some y)) (hx : 0 ≤ x) (hy : 0 ≤ y) (hV : (V, listOf us.toArray k) ∈ news) (hDV : @Ne Nat D V)
    (hz : vs.length + us.length ≤ sizeLine)
    (hn : (if (vs.take x.toNat ++ us ++ vs.drop (max x.toNat y.toNat)).toArray.size == vs.toArray.size then n else n + 1) = n')
    (U : Upd D (listOf vs.toArray n) (listOf (vs.take x.toNat ++ us ++ vs.drop (max x.toNat y.toNat)).toArray n') news news')
    (h : ∀ h', Fr h₀ L h' m → News h₀ L h' news' → Q () { s with heap := h' }) :
    wpAny (model prog w) A (setItem (.ref D) (.ref s.heap.objs.size) (.ref V)) Q E { s with heap := s.heap.push { cls := .type "slice", data := .fields #[vl, vu, .none] } } := by
  obtain ⟨pre, post, rfl, rfl, a, b⟩ := U.split
  have z := N (D, listOf vs.toArray n) (List.mem_append.mpr (.inr (.head _)))
  have zV := N _ hV
  have hlt : D < s.heap.objs.size := Heap.lt_size z.1
  have hD : (s.heap.push { cls := .type "slice", data := .fields #[vl, vu, .none] }).get? D = some (listOf vs.toArray n) := Heap.get?_push_of_some _ z.1
  have hVg : (s.heap.push { cls := .type "slice", data := .fields #[vl, vu, .none] }).get? V = some (listOf us.toArray k) := Heap.get?_push_of_some _ zV.1
  have hl : (s.heap.push { cls := .type "slice", data := .fields #[vl, vu, .none] }).IsList D vs.toArray := ⟨_, hD, rfl, n, rfl⟩
  have hlV : (s.heap.push { cls := .type "slice", data := .fields #[vl, vu, .none] }).IsList V us.toArray := ⟨_, hVg, rfl, k, rfl⟩
  have hsl := Heap.IsSliceOf.new s.heap vl vu .none
  obtain ⟨os, hos, hcs, hds⟩ := id hsl
  have F1 : Fr h₀ L (s.heap.push { cls := .type "slice", data := .fields #[vl, vu, .none] }) m := F.push _
  have N1 : News h₀ L (s.heap.push { cls := .type "slice", data := .fields #[vl, vu, .none] }) (pre ++ (D, listOf vs.toArray n) :: post) := N.grown fun _ _ e => Heap.get?_push_of_some _ e
  generalize hS : ({ s with heap := s.heap.push { cls := .type "slice", data := .fields #[vl, vu, .none] } } : Shared) = S
  have hSh : S.heap = s.heap.push { cls := .type "slice", data := .fields #[vl, vu, .none] } := by rw [← hS]
  rw [← hSh] at hD hVg hl hlV hsl hos F1 N1
  have hTs : S.TypeIs (.ref s.heap.objs.size) "slice" := ⟨os, hos, hcs⟩
  have hQ : ∀ h', Fr h₀ L h' m → News h₀ L h' (pre ++ (D, listOf (vs.take x.toNat ++ us ++ vs.drop (max x.toNat y.toNat)).toArray n') :: post) → Q () { S with heap := h' } := by
    intro h' F' N'
    have := h h' F' N'
    rw [← hS]
    exact this
  unfold setItem
  try with_reducible refine wpAny_holding ?_
  first | refine wpAny_bind (wpAny_pure ?_) | skip
  refine wpAny_bind (wpAny_sequenceKey hl.typeIs (by decide) ?_)
  refine wpAny_bind (wpAny_callSpecial?_slot (name := Str.ofString "__setitem__") hl.typeIs slot_list_setitem
    (wpAny_call_entry slot_list_setitem hl.typeIs entry_list_setitem ?_ (args_list_setitem _ _ _)))
  show wpAny _ _ (Builtin.List.listSubscript? (.ref s.heap.objs.size) >>= _) _ _ S
  refine wpAny_bind ?_
  unfold Builtin.List.listSubscript?
  refine wpAny_bind (wpAny_specialOf hTs slice_no_index ?_)
  simp only [Option.isNone_none, if_true]
  refine wpAny_pure ?_
  show wpAny _ _ (typeOf (.ref s.heap.objs.size) >>= _) _ _ S
  refine wpAny_bind (wpAny_typeOf hTs ?_)
  rw [if_neg (by decide)]
  rw [listSliceParts_eq]
  refine wpAny_bind (wpAny_bind (wpAny_field hos hds (x := .none) rfl (wpAny_bind (wpAny_listPart .none ?_))))
  rw [if_neg (show ¬ ((rawPart none == rawInt 0) = true) from Bool.false_ne_true)]
  refine wpAny_bind (wpAny_field hos hds (x := vl) rfl (wpAny_bind (wpAny_listPart pl ?_)))
  refine wpAny_bind (wpAny_field hos hds (x := vu) rfl (wpAny_bind (wpAny_listPart pu (wpAny_pure ?_))))
  dsimp only
  have hsame : Builtin.List.listSameRef (.ref D) (.ref V) = false := by
    show ((D : Nat) == V) = false
    simpa using hDV
  rw [hsame, if_neg Bool.false_ne_true]
  refine wpAny_bind (m := Builtin.List.listAllItems (.ref V) "must assign iterable to extended slice") ?_
  unfold Builtin.List.listAllItems
  refine wpAny_bind (wpAny_typeOf hlV.typeIs ?_)
  rw [if_pos (show ((Value.type "list" == Value.type "list") || (Value.type "list" == Value.type "tuple")) = true by decide)]
  unfold Builtin.List.listItems
  refine wpAny_bind (wpAny_seqItems hVg rfl (wpAny_pure ?_))
  refine wpAny_bind (wpAny_bind (wpAny_seqItems hD rfl (wpAny_pure ?_)))
  refine wpAny_bind (wpAny_of_eq (sliceIndices_raw (some x) (some y) none vs.toArray.size (fun e => nomatch e)) ?_)
  have eb : sliceBounds (some x) (some y) none vs.toArray.size = (((min x.toNat vs.length : Nat) : Int), ((min y.toNat vs.length : Nat) : Int), 1) := by
    simp only [sliceBounds, Option.getD_none, show (1 : Int) > 0 by decide, if_true, if_neg (Int.not_lt.mpr hx), if_neg (Int.not_lt.mpr hy), List.size_toArray]
    rw [mm_bound hx, mm_bound hy]
  rw [eb]
  dsimp only
  rw [if_pos (show ((1 : Int) == 1) = true by decide)]
  refine wpAny_bind (wpAny_rule ?_)
  rw [if_neg (show ¬ (Builtin.List.listTooLong (vs.toArray.size + us.toArray.size) = true) by
    simp only [Builtin.List.listTooLong, List.size_toArray, decide_eq_true_eq]; exact Nat.not_lt.mpr hz)]
  have em : (max (((min x.toNat vs.length : Nat) : Int)) (((min y.toNat vs.length : Nat) : Int))).toNat = max (min x.toNat vs.length) (min y.toNat vs.length) := mm_max _ _
  have ef : ∀ xs : Array Value, xs = vs.toArray → xs.extract 0 (((min x.toNat vs.length : Nat) : Int)).toNat ++ us.toArray ++ xs.extract (max (((min x.toNat vs.length : Nat) : Int)) (((min y.toNat vs.length : Nat) : Int))).toNat xs.size = (vs.take x.toNat ++ us ++ vs.drop (max x.toNat y.toNat)).toArray := by
    intro xs e
    subst e
    rw [em, Int.toNat_natCast, List.size_toArray]
    exact splice_eq vs us x.toNat y.toNat
  have hlen : (vs.take x.toNat ++ us ++ vs.drop (max x.toNat y.toNat)).toArray.size ≤ vs.length + us.length := by
    simp only [List.size_toArray, List.length_append, List.length_take, List.length_drop]
    rw [Nat.add_right_comm]
    exact Nat.add_le_add_right (mm_take _ _ _) _
  unfold Builtin.List.listUpdate
  dsimp only
  refine wpAny_bind (wpAny_updateSeq hD rfl ?_ (by show vs.toArray.size ≤ sizeLine; rw [List.size_toArray]; exact Nat.le_trans (Nat.le_add_right _ _) hz) (by rw [ef _ rfl]; exact Nat.le_succ_of_le (Nat.le_trans hlen hz)))
  refine wpAny_bind (wpAny_letGo (wpAny_pure ?_))
  refine ⟨.none, rfl, wpAny_pure ?_⟩
  refine hQ _ (F1.change (Heap.SameBut.update ..) z.2.1 z.2.2) ?_
  refine ki_turn _ N1 a b ?_ hn
  exact ef _ rfl
end
/-- what ns[x:y] = ms makes of ns -/
def spl (ns ms : List Int) (x y : Int) : List Int := ns.take x.toNat ++ ms ++ ns.drop (max x.toNat y.toNat)
theorem spl_length (ns ms : List Int) (x y : Int) : (spl ns ms x y).length = min x.toNat ns.length + ms.length + (ns.length - max x.toNat y.toNat) := by
  unfold spl
  simp only [List.length_append, List.length_take, List.length_drop]
/-- ns[x:y] -/
def cut (ns : List Int) (x y : Int) : List Int := (ns.drop x.toNat).take (min y.toNat ns.length - x.toNat)
theorem rep_length (k : Nat) (x : Int) : ((List.replicate k [x]).flatten).length = k := by induction k with
  | zero => rfl
  | succ k ih => rw [List.replicate_succ, List.flatten_cons, List.length_append, ih, List.length_singleton, Nat.add_comm]
theorem ints_app {vs us : List Value} {ns ms : List Int} (h : IntsAre vs ns) (k : IntsAre us ms) : IntsAre (vs ++ us) (ns ++ ms) := h.append k
section
variable {prog : Program} {w : World} {A : Around} {E : Value → Shared → Prop} {s : Shared} {h₀ : Heap} {L D : Addr} {m : Str → Option Value} {news : List (Addr × Obj)} {news' : Obj → List (Addr × Obj)}
theorem set_slice_ints {V : Addr} {vs us : List Value} {ns ms : List Int} {n k : Nat} {vl vu : Value} {x y : Int} {Q : Unit → Shared → Prop} (F : Fr h₀ L s.heap m) (N : News h₀ L s.heap news)
    (pl : IsPart vl (some x)) (pu : IsPart vu (some y)) (U : ∀ o', Upd D (listOf vs.toArray n) o' news (news' o')) (hV : (V, listOf us.toArray k) ∈ news) (hx : 0 ≤ x) (hy : 0 ≤ y) (hDV : @Ne Nat D V)
    (hi : IntsAre vs ns) (hj : IntsAre us ms) {r q : Nat} (hr : ns.length = r) (hq : ms.length = q) (hz : r + q ≤ 2 ^ 24)
    (h : ∀ h' ws zs n', zs = spl ns ms x y → zs.length = min x.toNat r + q + (r - max x.toNat y.toNat) → IntsAre ws zs → Fr h₀ L h' m → News h₀ L h' (news' (listOf ws.toArray n')) → Q () { s with heap := h' }) :
    wpAny (model prog w) A (setItem (.ref D) (.ref s.heap.objs.size) (.ref V)) Q E { s with heap := s.heap.push { cls := .type "slice", data := .fields #[vl, vu, .none] } } := by
  refine set_slice F N pl pu hx hy hV hDV ?_ rfl (U _) fun h' F' N' => h h' _ _ _ rfl (by rw [spl_length, hr, hq]) ?_ F' N'
  · rw [hi.length, hj.length, sizeLine_eq, hr, hq]; exact hz
  · exact ints_app (ints_app (hi.take _) hj) (hi.drop _)

theorem cut_length (ns : List Int) (x y : Int) : (cut ns x y).length = min y.toNat ns.length - x.toNat := by
  unfold cut
  rw [List.length_take, List.length_drop]
  exact Nat.min_eq_left (Nat.sub_le_sub_right (Nat.min_le_right _ _) _)
theorem cut_slice {l : Addr} {vs : List Value} {ns : List Int} {k : Nat} {news : List (Addr × Obj)} {value slice : PySem.Expr} {vl vu : Value} {x y : Int} {Q : Value → Shared → Prop} (F : Fr h₀ L s.heap m) (N : News h₀ L s.heap news)
    (hm : (l, listOf vs.toArray k) ∈ news) (pl : IsPart vl (some x)) (pu : IsPart vu (some y)) (hx : 0 ≤ x) (hy : 0 ≤ y) (hi : IntsAre vs ns) {r : Nat} (hr : ns.length = r) (hz : r ≤ 2 ^ 24)
    (h : ∀ D h' ws zs, zs = cut ns x y → zs.length = min y.toNat r - x.toNat → IntsAre ws zs → Fr h₀ L h' m → News h₀ L h' ((D, listOf (List.toArray ws) 0) :: news) → (∀ p ∈ news, p.1 < D) → Q (.ref D) { s with heap := h' })
    (hs : subscripted slice false (.ref l) (.ref s.heap.objs.size) = operate [.ref s.heap.objs.size, .ref l] (getItem (.ref l) (.ref s.heap.objs.size))) (ht : ∀ r, letTemporaryGo value (.ref l) r = pure ()) :
    wpAny (model prog w) A (subscriptTail value slice (.ref l) (.ref s.heap.objs.size)) Q E { s with heap := s.heap.push { cls := .type "slice", data := .fields #[vl, vu, .none] } } := by
  refine kmk_slice_ints F N (PySem.IsL.isList (n := k) (N _ hm).1) pl pu hi (kmk_run hi hx hy) rfl (fun D ws h' F' N' l1 hw _ _ => h D h' ws _ rfl ?_ hw F' N' l1) hs ht ?_
  · rw [cut_length, hr]
  · rw [List.size_toArray, hi.length, hr, sizeLine_eq]; exact hz
/-- [x] * k -/
theorem rep_list {l : Addr} {k : Nat} {v : Int} {t u : Tok} {x : Int} {news : List (Addr × Obj)} {Q : Value → Shared → Prop} (F : Fr h₀ L s.heap m) (N : News h₀ L s.heap news) (hm : (l, listOf #[Value.int v t] k) ∈ news) (h0 : 0 ≤ x) (h1 : x ≤ 256)
    (h : ∀ D h' ws zs, zs = List.replicate x.toNat v → zs.length = x.toNat → IntsAre ws zs → Fr h₀ L h' m → News h₀ L h' ((D, listOf (List.toArray ws) 0) :: news) → (∀ p ∈ news, p.1 < D) → Q (.ref D) { s with heap := h' }) :
    wpAny (model prog w) A (binaryOp .Mult (.ref l) (.int x u)) Q E s := by
  refine KMa.mul (vs := [Value.int v t]) F N (PySem.IsL.isList (n := k) (N _ hm).1) (Int.le_trans (by decide) h0) (Int.lt_of_le_of_lt h1 (by decide)) (by simp only [List.length_singleton]; rw [Nat.one_mul]; exact Int.toNat_le.mpr h1) rfl fun D h' F' N' l1 => h D h' _ (List.replicate x.toNat v) rfl (List.length_replicate ..) ?_ F' N' l1
  generalize x.toNat = j
  induction j with
  | zero => exact .nil
  | succ j ih => exact .cons v t ih
end
theorem spl_front {zz z ns : List Int} {x y : Int} (h : zz = spl z ns x y) (hx : x = 0) : zz = ns ++ z.drop (max x.toNat y.toNat) := by
  rw [h, hx]
  unfold spl
  rfl
theorem sub_tail {α : Type} {a : α} {l l' : List α} (h : ∀ p ∈ l, p ∈ l') : ∀ p ∈ l, p ∈ a :: l' := fun p hp => .tail _ (h p hp)
local macro_rules | `(tactic| kcj_all) => `(tactic| first | exact fun _ h => h | (refine Mine.sub_tail ?_; kcj_all) | (refine List.forall_mem_cons.mpr ⟨?_, ?_⟩; (k_mem); (kcj_all)))
section
variable {prog : Program} {w : World} {A : Around} {E : Value → Shared → Prop} {s : Shared} {h₀ : Heap} {L : Addr} {m : Str → Option Value} {news : List (Addr × Obj)}
theorem len_filter {l : Addr} {ys : List Value} {zs : List Int} {f : Int → Bool} {Q : Value → Shared → Prop} (hl : s.heap.IsList l ys.toArray) (hc : CarriedAll ys (List.map PyData.int (List.filter f zs))) (hz : zs.length ≤ 24)
    (h : Q (.int ((zs.filter f).length : Int) (s.toks + 1)) { s with toks := s.toks + 1 + 1 }) : wpAny (model prog w) A (call (.builtin "len") [.ref l]) Q E s := by
  have e : ys.toArray.size = (zs.filter f).length := by rw [List.size_toArray, hc.length_eq, List.length_map]
  have h2 := List.length_filter_le f zs
  exact len_list hl (by rw [e]; omega) (by rw [e]; exact h)
/-- where an int first stands in a list -/
theorem idx_split {ns : List Int} {k : Int} (hk : k ∈ ns) : ns = ns.take (ns.idxOf k) ++ k :: ns.drop (ns.idxOf k + 1) := by
  have hj : ns.idxOf k < ns.length := List.idxOf_lt_length_iff.mpr hk
  have e : ns[ns.idxOf k] = k := by simpa using List.getElem_idxOf hj
  have := (List.take_append_drop (ns.idxOf k) ns).symm
  rw [List.drop_eq_getElem_cons hj, e] at this
  exact this
theorem index_ints {l : Addr} {vs : List Value} {ns : List Int} {c : Nat} {k : Int} {t : Tok} {Q : Value → Shared → Prop} (N : News h₀ L s.heap news) (hm : (l, listOf vs.toArray c) ∈ news) (hi : IntsAre vs ns) (hz : ns.length ≤ 24)
    (hk : (ns.any fun x => x == k) = true) (h : ∀ i : Nat, i < ns.length → ns = ns.take i ++ k :: ns.drop (i + 1) → Q (.int (i : Int) s.toks) { s with toks := s.toks + 1 }) :
    wpAny (model prog w) A (call (.builtin "list.index") [.ref l, .int k t]) Q E s := by
  have hk' : k ∈ ns := by
    obtain ⟨x, hx, e⟩ := List.any_eq_true.mp hk
    rw [← eq_of_beq e]; exact hx
  have ho := (N _ hm).1
  have hj : ns.idxOf k < ns.length := List.idxOf_lt_length_iff.mpr hk'
  have hl := hi.length
  refine call_meets PySem.F.slot_list_index ⟨_, ho, rfl⟩ PySem.F.entry_list_index (PySem.F.args_list_index_2 _ _)
    (MeetsSeq.list_index l vs.toArray c (.int k t) (isInt k) (fun y hy => eq_isInt k t hi y (by simpa using hy)) (ns.idxOf k) (by rw [List.size_toArray]; omega) (by omega) ?_ fun j h1 h2 => ?_) ⟨ho, h _ hj (idx_split hk')⟩
  · show isInt k vs[ns.idxOf k] = true
    rw [isInt_at k hi _ (by omega) hj]
    simpa using List.getElem_idxOf hj
  · show isInt k vs[j] = false
    rw [isInt_at k hi j (by simpa using h1) (by omega)]
    exact ne_of_lt_idxOf h2 _
/-- ns[x:] -/
theorem cut_from {l : Addr} {vs : List Value} {ns : List Int} {k : Nat} {value slice : PySem.Expr} {vl : Value} {x : Int} {Q : Value → Shared → Prop} (F : Fr h₀ L s.heap m) (N : News h₀ L s.heap news)
    (hm : (l, listOf vs.toArray k) ∈ news) (pl : IsPart vl (some x)) (hx : 0 ≤ x) (hi : IntsAre vs ns) {r : Nat} (hr : ns.length ≤ r) (hz : r ≤ 2 ^ 24)
    (h : ∀ D h' ws zs, zs = ns.drop x.toNat → zs.length = ns.length - x.toNat → IntsAre ws zs → Fr h₀ L h' m → News h₀ L h' ((D, listOf (List.toArray ws) 0) :: news) → (∀ p ∈ news, p.1 < D) → Q (.ref D) { s with heap := h' })
    (hs : subscripted slice false (.ref l) (.ref s.heap.objs.size) = operate [.ref s.heap.objs.size, .ref l] (getItem (.ref l) (.ref s.heap.objs.size))) (ht : ∀ r, letTemporaryGo value (.ref l) r = pure ()) :
    wpAny (model prog w) A (subscriptTail value slice (.ref l) (.ref s.heap.objs.size)) Q E { s with heap := s.heap.push { cls := .type "slice", data := .fields #[vl, .none, .none] } } := by
  refine kmk_slice_ints F N (PySem.IsL.isList (n := k) (N _ hm).1) pl IsPart.none hi (kmk_from hi hx) rfl (fun D ws h' F' N' l1 hw _ _ => h D h' ws _ rfl (List.length_drop ..) hw F' N' l1) hs ht ?_
  rw [List.size_toArray, hi.length, sizeLine_eq]; omega
theorem item_ints {l : Addr} {vs : List Value} {ns : List Int} {c : Nat} {value slice : PySem.Expr} {k : Int} {u : Tok} {Q : Value → Shared → Prop} (N : News h₀ L s.heap news) (hm : (l, listOf vs.toArray c) ∈ news) (hi : IntsAre vs ns) (h0 : 0 ≤ k) (h1 : k < (ns.length : Int)) (hz : k ≤ 2 ^ 24)
    (h : ∀ x t, ns[k.toNat]? = some x → Q (.int x t) s)
    (hs : subscripted slice false (.ref l) (.int k u) = operate [.ref l, .int k u] (getItem (.ref l) (.int k u)) := by with_unfolding_all rfl) (hg : ∀ r, letTemporaryGo value (.ref l) r = pure () := by intro _; with_unfolding_all rfl) :
    wpAny (model prog w) A (subscriptTail value slice (.ref l) (.int k u)) Q E s := by
  have hk : k.toNat < ns.length := by omega
  obtain ⟨t, hv⟩ := hi.get k.toNat _ (List.getElem?_eq_getElem hk)
  exact item_list (PySem.IsL.isList (n := c) (N _ hm).1) h0 (by omega) (by simpa using hv) (h _ t (List.getElem?_eq_getElem hk)) hs hg
/-- the last item -/
theorem last_item {l : Addr} {vs : List Value} {v : Value} {c : Nat} {value slice : PySem.Expr} {u : Tok} {Q : Value → Shared → Prop} (N : News h₀ L s.heap news) (hm : (l, listOf (vs.toArray.push v) c) ∈ news)
    (h : Q v s)
    (hs : subscripted slice false (.ref l) (.int (-1) u) = operate [.ref l, .int (-1) u] (getItem (.ref l) (.int (-1) u)) := by with_unfolding_all rfl) (hg : ∀ r, letTemporaryGo value (.ref l) r = pure () := by intro _; with_unfolding_all rfl) :
    wpAny (model prog w) A (subscriptTail value slice (.ref l) (.int (-1) u)) Q E s := by
  have hl : s.heap.IsList l (vs ++ [v]).toArray := by
    have := PySem.IsL.isList (n := c) (N _ hm).1
    simpa using this
  exact item_last hl h hs hg
theorem last_two {l : Addr} {v0 v : Value} {c : Nat} {value slice : PySem.Expr} {u : Tok} {Q : Value → Shared → Prop} (N : News h₀ L s.heap news) (hm : (l, listOf #[v0, v] c) ∈ news)
    (h : Q v s)
    (hs : subscripted slice false (.ref l) (.int (-1) u) = operate [.ref l, .int (-1) u] (getItem (.ref l) (.int (-1) u)) := by with_unfolding_all rfl) (hg : ∀ r, letTemporaryGo value (.ref l) r = pure () := by intro _; with_unfolding_all rfl) :
    wpAny (model prog w) A (subscriptTail value slice (.ref l) (.int (-1) u)) Q E s :=
  item_last (vi := [v0]) (PySem.IsL.isList (n := c) (N _ hm).1) h hs hg
end
/-- a frame's map at a name -/
def MapAt (m : Str → Option Value) (x : Str) (v : Value) : Prop := m x = some v
def AllAt (m : Str → Option Value) (ps : List (Str × Value)) : Prop := ∀ p ∈ ps, m p.1 = some p.2
theorem all_nil {m : Str → Option Value} : AllAt m [] := List.forall_mem_nil _
theorem all_cons {m : Str → Option Value} {x : Str} {v : Value} {r : List (Str × Value)} (h : MapAt m x v) (k : AllAt m r) : AllAt m ((x, v) :: r) := List.forall_mem_cons.mpr ⟨h, k⟩
theorem kstB_self {ps : List (Str × Value)} {m₀ : Str → Option Value} (hk : AllAt m₀ ps) : kstB m₀ ps = m₀ := funext fun y => kstB_eq hk fun _ => rfl
theorem get_split {α : Type} {l : List α} {i : Nat} {v : α} (h : l[i]? = some v) : l.take (i + 1) = l.take i ++ [v] := by
  rw [List.take_add_one, h]; rfl
theorem fr_int {h₀ h : Heap} {L : Addr} {m : Str → Option Value} {x : Str} {k : Int} {t : Tok} (_F : Fr h₀ L h m) (e : m x = some (.int k t)) : ∃ t', MapAt m x (.int k t') := ⟨t, e⟩
theorem fr_str {h₀ h : Heap} {L : Addr} {m : Str → Option Value} {x : Str} {k : Str} {t : Tok} (_F : Fr h₀ L h m) (e : m x = some (.str k t)) : ∃ t', MapAt m x (.str k t') := ⟨t, e⟩
theorem fr_at {h₀ h : Heap} {L : Addr} {m : Str → Option Value} {x : Str} {v : Value} (_F : Fr h₀ L h m) (e : m x = some v) : MapAt m x v := e
/-- a turn's end, the loop's ledger and frame read off a state of one's own -/
def LedNext {σ : Type} (h₀ : Heap) (L : Addr) (s : Shared) (x : Str) (I : Addr) (oI : Obj) (Led : σ → List (Addr × Obj)) (ps : σ → List (Str × Value)) (J : σ → Prop) (s₂ : Shared) : Prop :=
  ∃ h' tk m' c', s₂ = { s with heap := h', toks := tk } ∧ Fr h₀ L h' m' ∧ AllAt m' (ps c') ∧ News h₀ L h' ((I, oI) :: Led c') ∧ (∀ p ∈ Led c', p.1 ≠ I) ∧ J c'
def LedPost {σ : Type} (h₀ : Heap) (L : Addr) (s : Shared) (x : Str) (I : Addr) (oI : Obj) (Led : σ → List (Addr × Obj)) (ps : σ → List (Str × Value)) (J : σ → Prop) (Q : Flow → Shared → Prop) (f : Flow) (s₂ : Shared) : Prop :=
  match f with
  | .ret v => Q (.ret v) s₂
  | .brk => Q .next s₂
  | _ => LedNext h₀ L s x I oI Led ps J s₂
def WlNext {σ : Type} (h₀ : Heap) (L : Addr) (s : Shared) (Led : σ → List (Addr × Obj)) (ps : σ → List (Str × Value)) (J : σ → Prop) (μ : σ → Nat) (c : σ) (s₂ : Shared) : Prop :=
  ∃ h' tk m' c', s₂ = { s with heap := h', toks := tk } ∧ Fr h₀ L h' m' ∧ AllAt m' (ps c') ∧ News h₀ L h' (Led c') ∧ μ c' < μ c ∧ J c'
def WlPost {σ : Type} (h₀ : Heap) (L : Addr) (s : Shared) (Led : σ → List (Addr × Obj)) (ps : σ → List (Str × Value)) (J : σ → Prop) (μ : σ → Nat) (Q : Flow → Shared → Prop) (c : σ) (f : Flow) (s₂ : Shared) : Prop :=
  match f with
  | .ret v => Q (.ret v) s₂
  | .brk => Q .next s₂
  | _ => WlNext h₀ L s Led ps J μ c s₂
section
variable {prog : Program} {w : World} {A : Around} {E : Value → Shared → Prop} {s : Shared} {env : Env} {h₀ : Heap} {L : Addr} {x : Str} {body : List Stmt} {Q : Flow → Shared → Prop}
theorem while_led {σ : Type} {test : PySem.Expr} {pos : Pos} (Led : σ → List (Addr × Obj)) (ps : σ → List (Str × Value)) (J : σ → Prop) (μ : σ → Nat) (c₀ : σ)
    {m₀ : Str → Option Value} (F : Fr h₀ L s.heap m₀) (N : News h₀ L s.heap (Led c₀)) (hk : AllAt m₀ (ps c₀)) (hJ : J c₀)
    (turn : ∀ (c : σ) (u : Str → Option Value) h tk, J c → Fr h₀ L h (kstB u (ps c)) → News h₀ L h (Led c) →
      wpAny (model prog w) A (isTrue test env (eval test env)) (fun b s₂ =>
        if b = true then wpAny (model prog w) A (execs body env) (WlPost h₀ L s Led ps J μ Q c) E s₂ else Q .next s₂) E { s with heap := h, toks := tk })
    (hE : PassesOwn (model prog w) A env E := by passes_own) :
    wpAny (model prog w) A (exec (.While test body [] pos) env) Q E s := by
  refine While_inv2 (fun n m nx => ∃ c : σ, nx = Led c ∧ μ c = n ∧ AllAt m (ps c) ∧ J c) F N ⟨c₀, rfl, rfl, hk, hJ⟩ ?_ hE
  rintro n m₁ nx h tk F₁ N₁ ⟨c, hnx, hsz, hm, hj⟩
  rw [hnx] at N₁
  rw [← hsz]
  rw [← kstB_self hm] at F₁
  refine wpAny_mono (turn c m₁ h tk hj F₁ N₁) (fun b s₂ p => ?_) fun _ _ x => x
  cases b with
  | false => simpa using p
  | true =>
    simp only [if_true] at p ⊢
    refine wpAny_mono p (fun f s₃ q => ?_) fun _ _ x => x
    cases f with
    | ret v => exact q
    | brk => exact q
    | next =>
      obtain ⟨h', tk', m', c', rfl, F', hm', N', hlt, hj'⟩ := q
      exact ⟨h', tk', m', Led c', μ c', rfl, F', N', hlt, c', rfl, rfl, hm', hj'⟩
    | cont =>
      obtain ⟨h', tk', m', c', rfl, F', hm', N', hlt, hj'⟩ := q
      exact ⟨h', tk', m', Led c', μ c', rfl, F', N', hlt, c', rfl, rfl, hm', hj'⟩
theorem led_frame {m₁ : Str → Option Value} {ps : List (Str × Value)} {v : Option Value} (hm : AllAt m₁ ps) : (fun y => if y = x then v else m₁ y) = fun y => if y = x then v else kstB m₁ ps y := by
  rw [kstB_self hm]
theorem led_frame0 {m₁ : Str → Option Value} {ps : List (Str × Value)} (hm : AllAt m₁ ps) : m₁ = kstB m₁ ps := (kstB_self hm).symm
theorem led_off {m₁ : Str → Option Value} {ps : List (Str × Value)} (hm : AllAt m₁ ps) : AllAt m₁ ps := hm
theorem range_led {σ : Type} {r : Addr} {a₀ b₀ : Int} {t₀ u₀ v₀ : Tok} {n : Nat} (Led : σ → List (Addr × Obj)) (ps : σ → List (Str × Value)) (J : Nat → σ → Prop) (c₀ : σ)
    (hh : A.handled = none) (hr : IsRange s.heap r a₀ b₀ 1 t₀ u₀ v₀) (hsmall : Builtin.Range.small a₀ b₀ 1 = true) (hn : Builtin.Range.rangeSize a₀ b₀ 1 = (n : Int)) {m₀ : Str → Option Value} (F : Fr h₀ env.locals s.heap m₀) (N : News h₀ env.locals s.heap (Led c₀)) (hk : AllAt m₀ (ps c₀)) (hj : J 0 c₀)
    (turn : ∀ i (c : σ) (u : Str → Option Value) t I oI h tk, i < n → J i c → Fr h₀ env.locals h (fun y => if y = x then some (.int (a₀ + (i : Int)) t) else kstB u (ps c) y) → News h₀ env.locals h ((I, oI) :: Led c) → (∀ p ∈ Led c, p.1 ≠ I) →
      wpAny (model prog w) A (execs body env) (LedPost h₀ env.locals { s with heap := h, toks := tk } x I oI Led ps (J (i + 1)) Q) E { s with heap := h, toks := tk })
    (done : ∀ (c : σ) (u : Str → Option Value) h tk, J n c → Fr h₀ env.locals h (kstB u (ps c)) → News h₀ env.locals h (Led c) → Q .next { s with heap := h, toks := tk }) :
    wpAny (model prog w) A (pyIter (.ref r)) (fun it s₂ => LoopAtV prog w A h₀ env x body Q E it s₂) E s := by
  refine wpAny_pyIter_range hr hsmall ?_
  have W : Walks prog w A s.heap.objs.size [s.heap.objs.size] [s.heap.objs.size] n (fun i v => i < n ∧ ∃ t, v = .int (a₀ + i * 1) t)
      (fun i h => IsRangeIter h s.heap.objs.size (a₀ + (i : Nat) * 1) ((n : Int) - (i : Nat)) 1) := (Walks.range hh _ a₀ 1 n).bound
  have hI0 : h₀.get? s.heap.objs.size = none := next_is_new F
  refine ⟨_, _, _, n, _, _, m₀, Led c₀, (fun i m nx => ∃ c : σ, nx = Led c ∧ AllAt m (ps c) ∧ J i c), rfl, W, ?_, ?_, ?_, (by show IsRangeIter _ _ _ _ _; rw [hn]; simpa using Heap.get?_push_size _ rfl), F.push _, (fun p hp => ⟨Heap.get?_push_of_some _ (N p hp).1, (N p hp).2⟩), ⟨c₀, rfl, hk, hj⟩, ?_, ?_⟩
  · intro hm
    exact absurd F.ns.lt ((List.mem_singleton.mp hm) ▸ Nat.lt_irrefl _)
  · intro b hb
    rw [List.mem_singleton.mp hb]
    exact hI0
  · intro p hp hI
    exact absurd (Heap.lt_size (N p hp).1) ((List.mem_singleton.mp hI) ▸ Nat.lt_irrefl _)
  · rintro i v m₁ news₁ s₁ own ⟨hh', tk', rfl⟩ hin ⟨_, t, rfl⟩ ⟨c, rfl, hm, hJ⟩ hoff hown hget hfp hst F₁ N₁
    have e1 : a₀ + (i : Int) * 1 = a₀ + (i : Int) := by omega
    rw [e1, led_frame hm] at F₁
    have hoI : ∃ oI, hh'.get? s.heap.objs.size = some oI := ⟨_, hst⟩
    obtain ⟨oI, heI⟩ := hoI
    have hmI : (s.heap.objs.size, oI) ∈ own := hfp _ (List.mem_singleton.mpr rfl) hI0 _ heI
    have hall : ∀ p ∈ own, p = (s.heap.objs.size, oI) := fun p hp => by
      have h1 := List.mem_singleton.mp (hown p hp)
      have h2 := hget p hp
      rw [h1] at h2
      exact Prod.ext h1 (Option.some.inj (h2.symm.trans heI))
    refine wpAny_mono (turn i c _ t _ oI hh' tk' hin hJ F₁ (fun p hp => ?_) fun p hp e => hoff p hp (List.mem_singleton.mpr e)) (fun f s₂ p => ?_) fun _ _ e => e
    · rcases List.mem_cons.mp hp with rfl | hp
      · exact N₁ _ (List.mem_append.mpr (.inl hmI))
      · exact N₁ _ (List.mem_append.mpr (.inr hp))
    have fin : LedNext h₀ env.locals { s with heap := hh', toks := tk' } x s.heap.objs.size oI Led ps (J (i + 1)) s₂ → LoopStepU h₀ env.locals [s.heap.objs.size] own (fun m nx => ∃ c : σ, nx = Led c ∧ AllAt m (ps c) ∧ J (i + 1) c) { s with heap := hh', toks := tk' } .next s₂ := by
      rintro ⟨h', tk, m', c', e, F', hm', N', hof, hj'⟩
      refine ⟨rfl, h', tk, m', Led c', e, F', fun p hp => ?_, fun p hp hq => hof p hp (List.mem_singleton.mp hq), c', rfl, hm', hj'⟩
      rcases List.mem_append.mp hp with hp | hp
      · rw [hall p hp]; exact N' _ (.head _)
      · exact N' _ (.tail _ hp)
    cases f with
    | ret v => exact .ret p
    | brk => exact .brk p
    | next => exact .next (fin p)
    | cont => exact .cont (fin p)
  · rintro h' tk m' news' F' N' _ ⟨c, rfl, hm, hJ⟩
    exact done c m' h' tk hJ (by rw [kstB_self hm]; exact F') N'
theorem list_led {σ : Type} {l : Addr} {vs : List Value} {nn : Nat} (Led : σ → List (Addr × Obj)) (ps : σ → List (Str × Value)) (J : Nat → σ → Prop) (c₀ : σ)
    (hh : A.handled = none) (hl : ∀ c, (l, listOf vs.toArray nn) ∈ Led c) {m₀ : Str → Option Value} (F : Fr h₀ env.locals s.heap m₀) (N : News h₀ env.locals s.heap (Led c₀)) (hk : AllAt m₀ (ps c₀)) (hj : J 0 c₀)
    (turn : ∀ i v (c : σ) (u : Str → Option Value) I oI h tk, vs[i]? = some v → J i c → Fr h₀ env.locals h (fun y => if y = x then some v else kstB u (ps c) y) → News h₀ env.locals h ((I, oI) :: Led c) → (∀ p ∈ Led c, p.1 ≠ I) →
      wpAny (model prog w) A (execs body env) (LedPost h₀ env.locals { s with heap := h, toks := tk } x I oI Led ps (J (i + 1)) Q) E { s with heap := h, toks := tk })
    (done : ∀ (c : σ) (u : Str → Option Value) h tk, J vs.length c → Fr h₀ env.locals h (kstB u (ps c)) → News h₀ env.locals h (Led c) → Q .next { s with heap := h, toks := tk }) :
    wpAny (model prog w) A (pyIter (.ref l)) (fun it s₂ => LoopAtV prog w A h₀ env x body Q E it s₂) E s := by
  have hol : s.heap.get? l = some (listOf vs.toArray nn) := (N _ (hl c₀)).1
  have hls : s.heap.IsList l vs.toArray := ⟨_, hol, rfl, nn, rfl⟩
  have hne : l ≠ s.heap.objs.size := Nat.ne_of_lt (Heap.lt_size hol)
  refine wpAny_pyIter_list hls ?_
  have W := Walks.list (prog := prog) (w := w) hh s.heap.objs.size l hne vs.toArray
  have hlen : vs.toArray.size = vs.length := List.size_toArray ..
  rw [hlen] at W
  have hI0 : h₀.get? s.heap.objs.size = none := next_is_new F
  refine ⟨_, _, _, vs.length, _, _, m₀, Led c₀, (fun i m nx => ∃ c : σ, nx = Led c ∧ AllAt m (ps c) ∧ J i c), rfl, W, ?_, ?_, ?_, ⟨⟨_, Heap.get?_push_size _ rfl, rfl, rfl⟩, hls.at fun o e => Heap.get?_push_of_some _ e⟩, F.push _, (fun p hp => ⟨Heap.get?_push_of_some _ (N p hp).1, (N p hp).2⟩), ⟨c₀, rfl, hk, hj⟩, ?_, ?_⟩
  · intro hm
    rcases List.mem_cons.mp hm with e | hm
    · exact absurd F.ns.lt (e ▸ Nat.lt_irrefl _)
    · exact (N _ (hl c₀)).2.1 ((List.mem_singleton.mp hm).symm)
  · intro b hb
    rw [List.mem_singleton.mp hb]
    exact hI0
  · intro p hp hI
    exact absurd (Heap.lt_size (N p hp).1) ((List.mem_singleton.mp hI) ▸ Nat.lt_irrefl _)
  · rintro i v m₁ news₁ s₁ own ⟨hh', tk', rfl⟩ hin hP ⟨c, rfl, hm, hJ⟩ hoff hown hget hfp hst F₁ N₁
    rw [led_frame hm] at F₁
    have hoI : ∃ oI, hh'.get? s.heap.objs.size = some oI := by
      obtain ⟨o, e, _⟩ := hst.1
      exact ⟨o, e⟩
    obtain ⟨oI, heI⟩ := hoI
    have hmI : (s.heap.objs.size, oI) ∈ own := hfp _ (.head _) hI0 _ heI
    have hlo : hh'.get? l = some (listOf vs.toArray nn) := (N₁ _ (List.mem_append.mpr (.inr (hl c)))).1
    have hall : ∀ p ∈ own, p = (s.heap.objs.size, oI) ∨ p = (l, listOf vs.toArray nn) := fun p hp => by
      have h2 := hget p hp
      rcases List.mem_cons.mp (hown p hp) with h1 | h1
      · rw [h1] at h2
        exact .inl (Prod.ext h1 (Option.some.inj (h2.symm.trans heI)))
      · have h1 := List.mem_singleton.mp h1
        rw [h1] at h2
        exact .inr (Prod.ext h1 (Option.some.inj (h2.symm.trans hlo)))
    refine wpAny_mono (turn i v c _ _ oI hh' tk' (by simpa using hP) hJ F₁ (fun p hp => ?_) fun p hp e => hoff p hp (List.mem_singleton.mpr e)) (fun f s₂ p => ?_) fun _ _ e => e
    · rcases List.mem_cons.mp hp with rfl | hp
      · exact N₁ _ (List.mem_append.mpr (.inl hmI))
      · exact N₁ _ (List.mem_append.mpr (.inr hp))
    have fin : LedNext h₀ env.locals { s with heap := hh', toks := tk' } x s.heap.objs.size oI Led ps (J (i + 1)) s₂ → LoopStepU h₀ env.locals [s.heap.objs.size] own (fun m nx => ∃ c : σ, nx = Led c ∧ AllAt m (ps c) ∧ J (i + 1) c) { s with heap := hh', toks := tk' } .next s₂ := by
      rintro ⟨h', tk, m', c', e, F', hm', N', hof, hj'⟩
      refine ⟨rfl, h', tk, m', Led c', e, F', fun p hp => ?_, fun p hp hq => hof p hp (List.mem_singleton.mp hq), c', rfl, hm', hj'⟩
      rcases List.mem_append.mp hp with hp | hp
      · rcases hall p hp with e | e
        · rw [e]; exact N' _ (.head _)
        · rw [e]; exact N' _ (.tail _ (hl c'))
      · exact N' _ (.tail _ hp)
    cases f with
    | ret v => exact .ret p
    | brk => exact .brk p
    | next => exact .next (fin p)
    | cont => exact .cont (fin p)
  · rintro h' tk m' news' F' N' _ ⟨c, rfl, hm, hJ⟩
    exact done c m' h' tk hJ (by rw [kstB_self hm]; exact F') N'
end
theorem led_next {σ : Type} {h₀ : Heap} {L : Addr} {s : Shared} {x : Str} {I : Addr} {oI : Obj} {Led : σ → List (Addr × Obj)} {ps : σ → List (Str × Value)} {J : σ → Prop} {Q : Flow → Shared → Prop} {h' : Heap} {tk : Nat} {m' : Str → Option Value} {news' : List (Addr × Obj)} (c' : σ)
    (F : Fr h₀ L h' m') (N : News h₀ L h' news') (hk : AllAt m' (ps c')) (hs : ∀ p ∈ (I, oI) :: Led c', p ∈ news') (off : ∀ p ∈ Led c', p.1 ≠ I) (hj : J c') : LedPost h₀ L s x I oI Led ps J Q .next { s with heap := h', toks := tk } :=
  ⟨h', tk, m', c', rfl, F, hk, fun p hp => N p (hs p hp), off, hj⟩
theorem wl_next {σ : Type} {h₀ : Heap} {L : Addr} {s : Shared} {Led : σ → List (Addr × Obj)} {ps : σ → List (Str × Value)} {J : σ → Prop} {μ : σ → Nat} {c : σ} {Q : Flow → Shared → Prop} {h' : Heap} {tk : Nat} {m' : Str → Option Value} {news' : List (Addr × Obj)} (c' : σ)
    (F : Fr h₀ L h' m') (N : News h₀ L h' news') (hk : AllAt m' (ps c')) (hs : ∀ p ∈ Led c', p ∈ news') (hl : μ c' < μ c) (hj : J c') : WlPost h₀ L s Led ps J μ Q c .next { s with heap := h', toks := tk } :=
  ⟨h', tk, m', c', rfl, F, hk, fun p hp => N p (hs p hp), hl, hj⟩
/-- an element's end in a comprehension -/
def ClEnd {σ : Type} (h₀ : Heap) (L : Addr) (m : Str → Option Value) (s₁ : Shared) (I C D : Addr) (oI oC : Obj) (ys : List Value) (Led : σ → List (Addr × Obj)) (S : List (Addr × Obj) → Prop) (J : Value → σ → Prop) (y : Value) (s₂ : Shared) : Prop :=
  ∃ h' tk c', s₂ = { s₁ with heap := h', toks := tk } ∧ Fr h₀ L h' m ∧ News h₀ L h' ((I, oI) :: (C, oC) :: (D, LCg.lst ys) :: Led c') ∧ LCg.Off3 I C D (Led c') ∧ S (Led c') ∧ J y c'
section
variable {prog : Program} {w : World} {A : Around} {h₀ : Heap} {L : Addr} {m : Str → Option Value} {env : Env} {elt ct : PySem.Expr} {x : Str} {scope : Scope} {cl : List (Str × Addr)} {s : Shared} {P : Nat → Value → Prop} {S : List (Addr × Obj) → Prop} {Fin : List Value → List (Addr × Obj) → Prop}
theorem comp_led {σ : Type} {num : Nat} (Led : σ → List (Addr × Obj)) (J : Nat → List Value → σ → Prop) (c₀ : σ) (hj : J 0 [] c₀)
    (turn : ∀ i ys (c : σ) v I oI C oC D m₂ h tk (E' : Value → Shared → Prop), i < num → ys.length = i → J i ys c → P i v → LCg.NsObj oC m₂ → m₂ x = some v → Fr h₀ L h m → News h₀ L h ((I, oI) :: (C, oC) :: (D, LCg.lst ys) :: Led c) → LCg.Off3 I C D (Led c) → ((@Ne Nat I C) ∧ (@Ne Nat I D) ∧ (@Ne Nat C D)) →
      wpAny (model prog w) A (eval elt (compEnvC scope cl C env)) (ClEnd h₀ L m { s with heap := h, toks := tk } I C D oI oC ys Led S (fun y c' => J (i + 1) (ys ++ [y]) c')) E' { s with heap := h, toks := tk })
    (fin : ∀ ys c, ys.length = num → J num ys c → Fin ys (Led c)) : LCg.CompRest prog w A h₀ L m env elt x scope cl s S P Fin num 0 [] (Led c₀) := by
  have key : ∀ (j i : Nat) (ys : List Value) (c : σ), i + j = num → ys.length = i → J i ys c → LCg.CompRest prog w A h₀ L m env elt x scope cl s S P Fin j i ys (Led c) := by
    intro j
    induction j with
    | zero =>
      intro i ys c hij hl hJ
      obtain rfl : i = num := by omega
      exact LCg.CompRest.zero (fin ys c hl hJ)
    | succ j ih =>
      intro i ys c hij hl hJ
      refine LCg.CompRest.succ ?_
      intro v I oI C oC D m₂ h tk E' hP hC hx F N off ne
      refine wpAny_mono (turn i ys c v I oI C oC D m₂ h tk E' (by omega) hl hJ hP hC hx F N off ne) (fun y s₂ hq => ?_) fun _ _ e => e
      obtain ⟨h', tk', c', e, F', N', off', hS', hJ'⟩ := hq
      exact ⟨h', tk', _, e, F', N', off', hS', ih (i + 1) (ys ++ [y]) c' (by omega) (by rw [List.length_append, hl]; rfl) hJ'⟩
  exact key num 0 [] c₀ (by omega) rfl hj
theorem compT_led {σ : Type} {num : Nat} (Led : σ → List (Addr × Obj)) (J : Nat → List Value → σ → Prop) (c₀ : σ) (hj : J 0 [] c₀)
    (turn : ∀ i ys (c : σ) v I oI C oC D m₂ h tk (E' : Value → Shared → Prop), i < num → J i ys c → P i v → LCg.NsObj oC m₂ → m₂ x = some v → Fr h₀ L h m → News h₀ L h ((I, oI) :: (C, oC) :: (D, LCg.lst ys) :: Led c) → LCg.Off3 I C D (Led c) → ((@Ne Nat I C) ∧ (@Ne Nat I D) ∧ (@Ne Nat C D)) →
      wpAny (model prog w) A (isTrue ct (compEnvC scope cl C env) (eval ct (compEnvC scope cl C env)))
        (fun b s' => if b = true then wpAny (model prog w) A (eval elt (compEnvC scope cl C env)) (ClEnd h₀ L m { s with heap := h, toks := tk } I C D oI oC ys Led S (fun y c' => J (i + 1) (ys ++ [y]) c')) E' s'
          else ClEnd h₀ L m { s with heap := h, toks := tk } I C D oI oC ys Led S (fun _ c' => J (i + 1) ys c') Value.none s') E' { s with heap := h, toks := tk })
    (fin : ∀ ys c, J num ys c → Fin ys (Led c)) : LCt.CompRestT prog w A h₀ L m env ct elt x scope cl s S P Fin num 0 [] (Led c₀) := by
  have key : ∀ (j i : Nat) (ys : List Value) (c : σ), i + j = num → J i ys c → LCt.CompRestT prog w A h₀ L m env ct elt x scope cl s S P Fin j i ys (Led c) := by
    intro j
    induction j with
    | zero =>
      intro i ys c hij hJ
      obtain rfl : i = num := by omega
      exact LCt.CompRestT.zero (fin ys c hJ)
    | succ j ih =>
      intro i ys c hij hJ
      refine LCt.CompRestT.succ ?_
      intro v I oI C oC D m₂ h tk E' hP hC hx F N off ne
      refine wpAny_mono (turn i ys c v I oI C oC D m₂ h tk E' (by omega) hJ hP hC hx F N off ne) (fun b s' hq => ?_) fun _ _ e => e
      cases b with
      | true =>
        simp only [if_true] at hq ⊢
        refine wpAny_mono hq (fun y s₂ hq => ?_) fun _ _ e => e
        obtain ⟨h', tk', c', e, F', N', off', hS', hJ'⟩ := hq
        exact ⟨h', tk', _, e, F', N', off', hS', ih (i + 1) (ys ++ [y]) c' (by omega) hJ'⟩
      | false =>
        simp only [Bool.false_eq_true, if_false] at hq ⊢
        obtain ⟨h', tk', c', e, F', N', off', hS', hJ'⟩ := hq
        exact ⟨h', tk', _, e, F', N', off', hS', ih (i + 1) ys c' (by omega) hJ'⟩
  exact key num 0 [] c₀ (by omega) hj
end
theorem mem_skip {α : Type} {a b : α} {l : List α} : ∀ p ∈ a :: l, p ∈ a :: b :: l := fun p hp => by
  rcases List.mem_cons.mp hp with h | h
  · exact h ▸ .head _
  · exact .tail _ (.tail _ h)
/-- a statement in a box: see wrap in asm.py -/
def Wrap (p : Prop) : Prop := p
theorem wrap_i {p : Prop} (h : p) : Wrap p := h
theorem unwrap {p : Prop} (h : Wrap p) : p := h
/-- the state behind a step by a name of its own -/
theorem st_let {M : Model} {A : Around} {α : Type} {T : Sem α} {Q : α → Shared → Prop} {E : Value → Shared → Prop} {s : Shared} (h : let s' := s; wpAny M A T Q E s') : wpAny M A T Q E s := h
/-- the rest by names of their own -/
theorem wp_fold {M : Model} {A : Around} {α : Type} {T : Sem α} {Q : α → Shared → Prop} {E : Value → Shared → Prop} {s : Shared} (h : let q := Q; let e := E; wpAny M A T q e s) : wpAny M A T Q E s := h
section
variable {prog : Program} {w : World} {A A₀ : Around} {E : Value → Shared → Prop} {s : Shared} {K : Frag} {C L : Addr} {h₀ base : Heap} {m mg mb : Str → Option Value} {news : List (Addr × Obj)} {p : Program} {loose : List Str} {mean : ExcName → Option Value} {Q : Value → Shared → Prop}
/-- a def's body, its frame and its surroundings by names of their own -/
theorem code_defL {env : Env} {outer : List Env} {R : Result → Shared → Prop} {name qual : Str} {params : Arguments} {body : List Stmt} {scope : Scope} {dV kV doc pm cdv ct oc : Value} {an od : Option Addr} {osl : Array (Option Value)} {f : Addr} {args : Args} {binds : List (Str × Value)}
    (hA : A.frames = some (env :: outer)) (hf : env.frame = some L) (hke : env.scope.kind = .function) (B : Below A₀ base outer h₀) (F : Fr h₀ L s.heap m) (X₀ : K.In h₀) (N : News h₀ L s.heap news) (T : Top p loose mean mg mb h₀)
    (ho : K.lookup f = some ⟨oc, od, .func (fnOf name qual params body scope dV kV doc pm an cdv ct), osl⟩) (hcd : codeIn K cdv qual = true) (hcell : ∀ x ∈ scope.names, x.2 ≠ .cell) (hroom : A.depth < recursionLimit)
    (hbind : BindsTo s (fnOf name qual params body scope dV kV doc pm an cdv ct) args binds) (hloc : ∀ y ∈ binds, scope.names.lookup y.1 = some .local)
    (hco : scope.isCoroutine = false) (hgen : scope.isGenerator = false) (hk : scope.kind = .function)
    (h : ∀ g L' h₁ tk, Fr h₀ L g m → Fr g L' h₁ (fun y => binds.reverse.lookup y) → News g L' h₁ news → Below A base (env :: outer) g → K.In g → Top p loose mean mg mb g →
      let e' := envOf qual scope L' f cdv; let A' := A.deeper e';
      wpAny (model prog w) A' (execs body e')
        (fun fl s' => LeaveK h₀ L m g R (match fl with | .ret v => v | _ => .none) s')
        (fun e s' => wpAny (model prog w) A' (leaving e' e) (fun _ s'' => R (.error e) s'') (fun e' s'' => R (.error e') s'') s')
        { s with heap := h₁, toks := tk }) : codeAny (model prog w) A (.call (.ref f) args) R s :=
  code_def B F X₀ N T hA hf hke ho hcd hroom hbind hloc (fun g L' h₁ => h g L' h₁ _) hco hgen hk hcell
theorem code_defCL {env : Env} {outer : List Env} {R : Result → Shared → Prop} {name qual : Str} {params : Arguments} {body : List Stmt} {scope : Scope} {dV kV doc pm cdv ct oc : Value} {an od : Option Addr} {osl : Array (Option Value)} {f : Addr} {args : Args} {binds : List (Str × Value)}
    (hA : A.frames = some (env :: outer)) (hf : env.frame = some L) (hke : env.scope.kind = .function) (B : Below A₀ base outer h₀) (F : Fr h₀ L s.heap m) (X₀ : K.In h₀) (N : News h₀ L s.heap news) (T : Top p loose mean mg mb h₀)
    (ho : K.lookup f = some ⟨oc, od, .func (fnOf name qual params body scope dV kV doc pm an cdv ct), osl⟩) (hcd : codeIn K cdv qual = true) (hroom : A.depth < recursionLimit)
    (hbind : BindsTo s (fnOf name qual params body scope dV kV doc pm an cdv ct) args binds) (hkind : (binds.all fun y => scope.names.lookup y.1 == some .local || scope.names.lookup y.1 == some .cell) = true)
    (hnd : ((cellsFrom 0 scope.names []).map (·.1)).Nodup)
    (hco : scope.isCoroutine = false) (hgen : scope.isGenerator = false) (hk : scope.kind = .function)
    (h : ∀ g L' h₁ tk cells, Fr h₀ L g m → Fr g L' h₁ (bindL (envOfC qual scope L' f cdv).kindOf binds fun _ => none) → News g L' h₁ (cells ++ news) →
      CellsAre (bindC (envOfC qual scope L' f cdv).kindOf binds fun _ => none) (cellsFrom (L' + 1) scope.names []) cells → Below A base (env :: outer) g → K.In g → Top p loose mean mg mb g → (∀ p ∈ news, p.1 < L') →
      let e' := envOfC qual scope L' f cdv; let A' := A.deeper e';
      wpAny (model prog w) A' (execs body e')
        (fun fl s' => LeaveK h₀ L m g R (match fl with | .ret v => v | _ => .none) s')
        (fun e s' => wpAny (model prog w) A' (leaving e' e) (fun _ s'' => R (.error e) s'') (fun e' s'' => R (.error e') s'') s')
        { s with heap := h₁, toks := tk }) : codeAny (model prog w) A (.call (.ref f) args) R s :=
  code_defC B F X₀ N T hA hf hke ho hcd hroom hbind hkind hnd h hco hgen hk
end
section
variable {prog : Program} {w : World} {A : Around} {E : Value → Shared → Prop} {s : Shared} {K : Frag} {x C dx L : Addr} {h₀ : Heap} {m : Str → Option Value} {news : List (Addr × Obj)} {news' : Obj → List (Addr × Obj)} {ox od : Obj} {es es' : List DictEntry} {n n' : Nat} {name : Str} {v : Value}
/-- a stored attribute; the changed dict by a name of its own -/
theorem set_dictL {Q : Unit → Shared → Prop} (F : Fr h₀ L s.heap m) (X₀ : K.In h₀) (N : News h₀ L s.heap news) (I : InstAt s.heap x ox C (some (dictOf es n))) (hd : ox.dict = some dx)
    (hs : findIn K (.ref C) "__setattr__" = some (some (.builtin "object.__setattr__"))) (hp : plainOver K C = true) (ht : takerIn K C name = some none) (hh : hasDictIn K C = true) (hl : (getL name es).isSome = true)
    (e : (putL name (PyData.keyHash w.params name) (.str name (s.toks + 1)) v es, putN name es n) = (es', n')) (U : ∀ o', Upd dx (dictOf es n) o' news (news' o')) (hz : es'.length ≤ 1000)
    (h : let o' := dictOf es' n'; ∀ h', Fr h₀ L h' m → News h₀ L h' (news' o') → Q () { s with heap := h', toks := s.toks + 2 }) :
    wpAny (model prog w) A (setAttr (.ref x) name v) Q E s :=
  set_dict F X₀ N I hd hs hp ht hh hl e (U _) hz h
end
/-- the ledger by a name of its own -/
theorem news_let {M : Model} {A : Around} {α : Type} {T : Sem α} {Q : α → Shared → Prop} {E : Value → Shared → Prop} {s : Shared} {h₀ h : Heap} {L : Addr} {news : List (Addr × Obj)} (N : News h₀ L h news)
    (k : let l' := news; News h₀ L h l' → wpAny M A T Q E s) : wpAny M A T Q E s := k N
/-- the frame's map by a name of its own -/
theorem fr_let {M : Model} {A : Around} {α : Type} {T : Sem α} {Q : α → Shared → Prop} {E : Value → Shared → Prop} {s : Shared} {h₀ h : Heap} {L : Addr} {m : Str → Option Value}
    (k : let m' := m; Fr h₀ L h m' → wpAny M A T Q E s) : Fr h₀ L h m → wpAny M A T Q E s := k
theorem pj1 {B : Prop} {n m : Nat} (h : @LT.lt Nat _ n m ∧ B) : n ≠ m := Nat.ne_of_lt h.1
theorem pj2 {A B : Prop} {n m : Nat} (h : A ∧ @LT.lt Nat _ n m ∧ B) : n ≠ m := Nat.ne_of_lt h.2.1
theorem pj3 {A A' B : Prop} {n m : Nat} (h : A ∧ A' ∧ @LT.lt Nat _ n m ∧ B) : n ≠ m := Nat.ne_of_lt h.2.2.1
theorem pj4 {A A' A₂ B : Prop} {n m : Nat} (h : A ∧ A' ∧ A₂ ∧ @LT.lt Nat _ n m ∧ B) : n ≠ m := Nat.ne_of_lt h.2.2.2.1
theorem pj5 {A A' A₂ A₃ B : Prop} {n m : Nat} (h : A ∧ A' ∧ A₂ ∧ A₃ ∧ @LT.lt Nat _ n m ∧ B) : n ≠ m := Nat.ne_of_lt h.2.2.2.2.1
theorem pj6 {A A' A₂ A₃ A₄ B : Prop} {n m : Nat} (h : A ∧ A' ∧ A₂ ∧ A₃ ∧ A₄ ∧ @LT.lt Nat _ n m ∧ B) : n ≠ m := Nat.ne_of_lt h.2.2.2.2.2.1
theorem pj7 {A A' A₂ A₃ A₄ A₅ B : Prop} {n m : Nat} (h : A ∧ A' ∧ A₂ ∧ A₃ ∧ A₄ ∧ A₅ ∧ @LT.lt Nat _ n m ∧ B) : n ≠ m := Nat.ne_of_lt h.2.2.2.2.2.2.1
theorem pj8 {A A' A₂ A₃ A₄ A₅ A₆ B : Prop} {n m : Nat} (h : A ∧ A' ∧ A₂ ∧ A₃ ∧ A₄ ∧ A₅ ∧ A₆ ∧ @LT.lt Nat _ n m ∧ B) : n ≠ m := Nat.ne_of_lt h.2.2.2.2.2.2.2.1
theorem pj9 {A A' A₂ A₃ A₄ A₅ A₆ A₇ B : Prop} {n m : Nat} (h : A ∧ A' ∧ A₂ ∧ A₃ ∧ A₄ ∧ A₅ ∧ A₆ ∧ A₇ ∧ @LT.lt Nat _ n m ∧ B) : n ≠ m := Nat.ne_of_lt h.2.2.2.2.2.2.2.2.1
theorem pe2 {A : Prop} {n m : Nat} (h : A ∧ @LT.lt Nat _ n m) : n ≠ m := Nat.ne_of_lt h.2
theorem pe3 {A A' : Prop} {n m : Nat} (h : A ∧ A' ∧ @LT.lt Nat _ n m) : n ≠ m := Nat.ne_of_lt h.2.2
theorem pe4 {A A' A₂ : Prop} {n m : Nat} (h : A ∧ A' ∧ A₂ ∧ @LT.lt Nat _ n m) : n ≠ m := Nat.ne_of_lt h.2.2.2
theorem rm0 {d K R : Nat} (h : d + K < R) : d < R := Nat.lt_of_le_of_lt (Nat.le_add_right _ _) h
theorem rm1 {d i K R : Nat} (h : d + K < R) (e : Nat.ble i K = true) : d + i < R := Nat.lt_of_le_of_lt (Nat.add_le_add_left (Nat.le_of_ble_eq_true e) _) h
theorem rm2 {d i j K R : Nat} (h : d + K < R) (e : Nat.ble (i + j) K = true) : d + i + j < R := by rw [Nat.add_assoc]; exact rm1 h e
theorem rm3 {d i j k K R : Nat} (h : d + K < R) (e : Nat.ble (i + j + k) K = true) : d + i + j + k < R := by rw [Nat.add_assoc d i j, Nat.add_assoc]; exact rm1 h e
theorem rm4 {d i j k l K R : Nat} (h : d + K < R) (e : Nat.ble (i + j + k + l) K = true) : d + i + j + k + l < R := by rw [Nat.add_assoc d i j, Nat.add_assoc d, Nat.add_assoc d]; exact rm1 h e
theorem rm5 {d i j k l l' K R : Nat} (h : d + K < R) (e : Nat.ble (i + j + k + l + l') K = true) : d + i + j + k + l + l' < R := by rw [Nat.add_assoc d i j, Nat.add_assoc d, Nat.add_assoc d, Nat.add_assoc d]; exact rm1 h e

/-- the n-th entry, and what stands behind the first n -/
def nth {α : Type} : Nat → List α → Option α
  | _, [] => none
  | 0, a :: _ => some a
  | n + 1, _ :: l => nth n l
def dr {α : Type} : Nat → List α → List α
  | 0, l => l
  | _ + 1, [] => []
  | n + 1, _ :: l => dr n l
theorem mem_ix {x : Addr} {o : Obj} : ∀ {l : List (Addr × Obj)} (n : Nat) (_ : nth n l = some (x, o)), (x, o) ∈ l
  | [], 0, h => nomatch h
  | [], _ + 1, h => nomatch h
  | _ :: _, 0, h => Option.some.inj h ▸ .head _
  | _ :: _, n + 1, h => .tail _ (mem_ix n h)
theorem mem_dr {p : Addr × Obj} : ∀ {l : List (Addr × Obj)} (n : Nat) (_ : p ∈ dr n l), p ∈ l
  | _, 0, h => h
  | [], _ + 1, h => h
  | _ :: _, n + 1, h => .tail _ (mem_dr n h)
theorem mem_dr10 {p : Addr × Obj} {l : List (Addr × Obj)} (_ : (nth 9 l).isSome = true) (h : p ∈ dr 10 l) : p ∈ l := mem_dr 10 h
theorem mem_own {p : Addr × Obj} {own l : List (Addr × Obj)} (h : p ∈ own) (e : ∃ k, dr k l = own) : p ∈ l := let ⟨k, q⟩ := e; mem_dr k (q ▸ h)
/-- a dict's entries -/
def esOf (o : Obj) : List DictEntry := match o.data with
  | .dict es _ => es.toList
  | _ => []
def nOf (o : Obj) : Nat := match o.data with
  | .dict _ n => n
  | _ => 0
section
variable {prog : Program} {w : World} {A : Around} {E : Value → Shared → Prop} {s : Shared} {K : Frag} {x C L : Addr} {h₀ : Heap} {m : Str → Option Value} {ox od : Obj} {name : Str} {v : Value}
theorem get_ownO {expr : Bool} {Q : Value → Shared → Prop} {attr : Option Value} (F : Fr h₀ L s.heap m) (X₀ : K.In h₀) (I : InstAt s.heap x ox C (some od)) (ho : od = dictOf (esOf od) (nOf od)) (hg : plainGet K C name = true) (hh : hasDictIn K C = true)
    (ha : findIn K (.ref C) name = some attr) (hn : noGet K attr = true) (hl : getL name (esOf od) = some (some v)) (hv : handedIn v = true) (h : Q v { s with toks := s.toks + 1 }) :
    wpAny (model prog w) A (getAttr (.ref x) name expr) Q E s :=
  get_own F X₀ (Eq.subst (motive := fun o => InstAt s.heap x ox C (some o)) ho I) hg hh ha hn hl hv h
theorem method_instO {pl : Sem Bool} {Q : Value × List Value → Shared → Prop} {f : Addr} (F : Fr h₀ L s.heap m) (X₀ : K.In h₀) (I : InstAt s.heap x ox C (some od)) (ho : od = dictOf (esOf od) (nOf od)) (hg : plainGet K C name = true)
    (hf : findIn K (.ref C) name = some (some (.ref f))) (ht : isFn K (.ref f) = true) (hl : getL name (esOf od) = some none) (h : Q (.ref f, [.ref x]) s) : wpAny (model prog w) A (getMethod (.ref x) name pl) Q E s :=
  method_inst F X₀ (Eq.subst (motive := fun o => InstAt s.heap x ox C (some o)) ho I) hg hf ht hl h
/-- a stored attribute; the changed dict by a name of its own -/
theorem set_dictO {dx : Addr} {news : List (Addr × Obj)} {news' : Obj → List (Addr × Obj)} {es' : List DictEntry} {n n' : Nat} {Q : Unit → Shared → Prop} (F : Fr h₀ L s.heap m) (X₀ : K.In h₀) (N : News h₀ L s.heap news) (I : InstAt s.heap x ox C (some od)) (ho : od = dictOf (esOf od) n) (hd : ox.dict = some dx)
    (hs : findIn K (.ref C) "__setattr__" = some (some (.builtin "object.__setattr__"))) (hp : plainOver K C = true) (ht : takerIn K C name = some none) (hh : hasDictIn K C = true) (hl : (getL name (esOf od)).isSome = true)
    (e : (putL name (PyData.keyHash w.params name) (.str name (s.toks + 1)) v (esOf od), putN name (esOf od) n) = (es', n')) (U : ∀ o', Upd dx od o' news (news' o')) (hz : es'.length ≤ 1000)
    (h : let o' := dictOf es' n'; ∀ h', Fr h₀ L h' m → News h₀ L h' (news' o') → Q () { s with heap := h', toks := s.toks + 2 }) :
    wpAny (model prog w) A (setAttr (.ref x) name v) Q E s :=
  set_dict F X₀ N (Eq.subst (motive := fun o => InstAt s.heap x ox C (some o)) ho I) hd hs hp ht hh hl e (Eq.subst (motive := fun o => Upd dx o _ news _) ho (U _)) hz h
/-- all of these lie below d -/
def Lts (d : Nat) (as : List Nat) : Prop := ∀ x, x ∈ as → @LT.lt Nat _ x d
theorem lts_of {d : Addr} {l : List (Addr × Obj)} (h : AllLt d l) : Lts d (l.map Prod.fst) := fun x hx => by
  obtain ⟨p, hp, rfl⟩ := List.mem_map.mp hx
  exact kst_ltOf h p hp
theorem lts_up {d x : Addr} {l : List (Addr × Obj)} (h : ∀ p ∈ l, p.1 < d) (e : @LT.lt Nat _ d x) : Lts x (d :: l.map Prod.fst) := fun y hy => by
  rcases List.mem_cons.mp hy with rfl | hy
  · exact e
  · obtain ⟨p, hp, rfl⟩ := List.mem_map.mp hy
    exact Nat.lt_trans (h p hp) e
theorem ltsF {a d : Nat} {as : List Nat} (h : Lts d as) (m : a ∈ as) : a ≠ d := Nat.ne_of_lt (h a m)
theorem ltsB {a d : Nat} {as : List Nat} (h : Lts a as) (m : d ∈ as) : a ≠ d := (Nat.ne_of_lt (h d m)).symm
theorem ltsA {d : Nat} {as : List Nat} {l : List (Addr × Obj)} (h : Lts d as) (e : l.map Prod.fst = as) : ∀ p ∈ l, p.1 ≠ d := fun p hp => Nat.ne_of_lt (h p.1 (e ▸ List.mem_map.mpr ⟨p, hp, rfl⟩))
theorem lts_own {d : Addr} {l : List (Addr × Obj)} (h : ∀ p ∈ l, p.1 < d) : Lts d (l.map Prod.fst) := lts_of (allLt_of h)
theorem lts_next {d x : Nat} {as : List Nat} (h : Lts d as) (e : @LT.lt Nat _ d x) : Lts x (d :: as) := fun y hy => by
  rcases List.mem_cons.mp hy with rfl | hy
  · exact e
  · exact Nat.lt_trans (h y hy) e
theorem lts_chain4 {l : List (Addr × Obj)} {a b c d e : Addr} (h : ∀ p ∈ l, p.1 < a) (k : @LT.lt Nat _ a b ∧ @LT.lt Nat _ b c ∧ @LT.lt Nat _ c d ∧ @LT.lt Nat _ d e) :
    Lts b (a :: l.map Prod.fst) ∧ Lts c (b :: a :: l.map Prod.fst) ∧ Lts d (c :: b :: a :: l.map Prod.fst) ∧ Lts e (d :: c :: b :: a :: l.map Prod.fst) :=
  have h1 := lts_next (lts_own h) k.1
  have h2 := lts_next h1 k.2.1
  have h3 := lts_next h2 k.2.2.1
  ⟨h1, h2, h3, lts_next h3 k.2.2.2⟩
theorem lts_chain8 {l : List (Addr × Obj)} {a b c d e a' b' c' d' : Addr} (h : ∀ p ∈ l, p.1 < a) (k : @LT.lt Nat _ a b ∧ @LT.lt Nat _ b c ∧ @LT.lt Nat _ c d ∧ @LT.lt Nat _ d e ∧ @LT.lt Nat _ e a' ∧ @LT.lt Nat _ a' b' ∧ @LT.lt Nat _ b' c' ∧ @LT.lt Nat _ c' d') :
    Lts b (a :: l.map Prod.fst) ∧ Lts c (b :: a :: l.map Prod.fst) ∧ Lts d (c :: b :: a :: l.map Prod.fst) ∧ Lts e (d :: c :: b :: a :: l.map Prod.fst) ∧ Lts a' (e :: d :: c :: b :: a :: l.map Prod.fst) ∧
    Lts b' (a' :: e :: d :: c :: b :: a :: l.map Prod.fst) ∧ Lts c' (b' :: a' :: e :: d :: c :: b :: a :: l.map Prod.fst) ∧ Lts d' (c' :: b' :: a' :: e :: d :: c :: b :: a :: l.map Prod.fst) :=
  have h1 := lts_next (lts_own h) k.1
  have h2 := lts_next h1 k.2.1
  have h3 := lts_next h2 k.2.2.1
  have h4 := lts_next h3 k.2.2.2.1
  have h5 := lts_next h4 k.2.2.2.2.1
  have h6 := lts_next h5 k.2.2.2.2.2.1
  have h7 := lts_next h6 k.2.2.2.2.2.2.1
  ⟨h1, h2, h3, h4, h5, h6, h7, lts_next h7 k.2.2.2.2.2.2.2⟩
theorem mm0 {a : Nat} {r : List Nat} : a ∈ a :: r := .head _
theorem mm1 {x0 a : Nat} {r : List Nat} : a ∈ x0 :: a :: r := .tail _ (.head _)
theorem mm2 {x0 x1 a : Nat} {r : List Nat} : a ∈ x0 :: x1 :: a :: r := .tail _ (.tail _ (.head _))
theorem mm3 {x0 x1 x2 a : Nat} {r : List Nat} : a ∈ x0 :: x1 :: x2 :: a :: r := .tail _ (.tail _ (.tail _ (.head _)))
theorem mm4 {x0 x1 x2 x3 a : Nat} {r : List Nat} : a ∈ x0 :: x1 :: x2 :: x3 :: a :: r := .tail _ (.tail _ (.tail _ (.tail _ (.head _))))
theorem mm5 {x0 x1 x2 x3 x4 a : Nat} {r : List Nat} : a ∈ x0 :: x1 :: x2 :: x3 :: x4 :: a :: r := .tail _ (.tail _ (.tail _ (.tail _ (.tail _ (.head _)))))
theorem mm6 {x0 x1 x2 x3 x4 x5 a : Nat} {r : List Nat} : a ∈ x0 :: x1 :: x2 :: x3 :: x4 :: x5 :: a :: r := .tail _ (.tail _ (.tail _ (.tail _ (.tail _ (.tail _ (.head _))))))
theorem mm7 {x0 x1 x2 x3 x4 x5 x6 a : Nat} {r : List Nat} : a ∈ x0 :: x1 :: x2 :: x3 :: x4 :: x5 :: x6 :: a :: r := .tail _ (.tail _ (.tail _ (.tail _ (.tail _ (.tail _ (.tail _ (.head _)))))))
theorem mm8 {x0 x1 x2 x3 x4 x5 x6 x7 a : Nat} {r : List Nat} : a ∈ x0 :: x1 :: x2 :: x3 :: x4 :: x5 :: x6 :: x7 :: a :: r := .tail _ (.tail _ (.tail _ (.tail _ (.tail _ (.tail _ (.tail _ (.tail _ (.head _))))))))
theorem mm9 {x0 x1 x2 x3 x4 x5 x6 x7 x8 a : Nat} {r : List Nat} : a ∈ x0 :: x1 :: x2 :: x3 :: x4 :: x5 :: x6 :: x7 :: x8 :: a :: r := .tail _ (.tail _ (.tail _ (.tail _ (.tail _ (.tail _ (.tail _ (.tail _ (.tail _ (.head _)))))))))
theorem mm10 {x0 x1 x2 x3 x4 x5 x6 x7 x8 x9 a : Nat} {r : List Nat} : a ∈ x0 :: x1 :: x2 :: x3 :: x4 :: x5 :: x6 :: x7 :: x8 :: x9 :: a :: r := .tail _ (.tail _ (.tail _ (.tail _ (.tail _ (.tail _ (.tail _ (.tail _ (.tail _ (.tail _ (.head _))))))))))
theorem mm11 {x0 x1 x2 x3 x4 x5 x6 x7 x8 x9 x10 a : Nat} {r : List Nat} : a ∈ x0 :: x1 :: x2 :: x3 :: x4 :: x5 :: x6 :: x7 :: x8 :: x9 :: x10 :: a :: r := .tail _ (.tail _ (.tail _ (.tail _ (.tail _ (.tail _ (.tail _ (.tail _ (.tail _ (.tail _ (.tail _ (.head _)))))))))))
theorem mm12 {x0 x1 x2 x3 x4 x5 x6 x7 x8 x9 x10 x11 a : Nat} {r : List Nat} : a ∈ x0 :: x1 :: x2 :: x3 :: x4 :: x5 :: x6 :: x7 :: x8 :: x9 :: x10 :: x11 :: a :: r := .tail _ (.tail _ (.tail _ (.tail _ (.tail _ (.tail _ (.tail _ (.tail _ (.tail _ (.tail _ (.tail _ (.tail _ (.head _))))))))))))
theorem mm13 {x0 x1 x2 x3 x4 x5 x6 x7 x8 x9 x10 x11 x12 a : Nat} {r : List Nat} : a ∈ x0 :: x1 :: x2 :: x3 :: x4 :: x5 :: x6 :: x7 :: x8 :: x9 :: x10 :: x11 :: x12 :: a :: r := .tail _ (.tail _ (.tail _ (.tail _ (.tail _ (.tail _ (.tail _ (.tail _ (.tail _ (.tail _ (.tail _ (.tail _ (.tail _ (.head _)))))))))))))

end
local macro_rules | `(tactic| ktr_room) => `(tactic| (first | exact rm0 (by with_reducible assumption) | exact rm1 (by with_reducible assumption) (by rfl) | exact rm2 (by with_reducible assumption) (by rfl) | exact rm3 (by with_reducible assumption) (by rfl) | exact rm4 (by with_reducible assumption) (by rfl) | exact rm5 (by with_reducible assumption) (by rfl) | ((simp +zetaDelta only [depth_under_make, depth_under_kw, depth_in1, depth_deeper, depth_caller]); (try dsimp only [ktrTop]); first | exact rm0 (by with_reducible assumption) | exact rm1 (by with_reducible assumption) (by rfl) | exact rm2 (by with_reducible assumption) (by rfl) | exact rm3 (by with_reducible assumption) (by rfl) | exact rm4 (by with_reducible assumption) (by rfl) | exact rm5 (by with_reducible assumption) (by rfl) | decide | omega) | decide))
local macro_rules | `(tactic| ktr_units) => `(tactic| (first | exact rm0 (by with_reducible assumption) | exact rm1 (by with_reducible assumption) (by rfl) | exact rm2 (by with_reducible assumption) (by rfl) | exact rm3 (by with_reducible assumption) (by rfl) | exact rm4 (by with_reducible assumption) (by rfl) | exact rm5 (by with_reducible assumption) (by rfl) | (have hcL9 := cLine_is; (simp +zetaDelta only [units_in1, units_deeper, Around.mark_units, units_caller]); (try dsimp only [ktrTop]); first | exact rm0 (by with_reducible assumption) | exact rm1 (by with_reducible assumption) (by rfl) | exact rm2 (by with_reducible assumption) (by rfl) | exact rm3 (by with_reducible assumption) (by rfl) | exact rm4 (by with_reducible assumption) (by rfl) | exact rm5 (by with_reducible assumption) (by rfl) | omega)))
local macro_rules | `(tactic| walk_at "setAttr ref") => `(tactic| (k_here; k_dflt (refine' Mine.set_dictO ?k1 ?k2 ?k3 ?k4 ?ko ?k5 ?k6 ?k7 ?k8 ?k9 ?k10 ?k11 ?k12 ?k13 ?_; (case k1 => k_asm); (case k2 => k_asm); (case k3 => k_asm); (case k4 => k_inst); (case ko => exact rfl); (case k5 => exact rfl); (case k6 => k_is); (case k7 => k_is); (case k8 => k_is); (case k9 => k_is); (case k10 => k_get); (case k11 => k_put); (case k12 => (intro o'; k_upd)); (case k13 => exact Nat.le_of_ble_eq_true rfl)); intro o' h' F' N'; (try dsimp only at N'); (try k_sweep)))
local macro_rules | `(tactic| ke_room) => `(tactic| ktr_units)
local macro_rules | `(tactic| k_lt $h:ident) => `(tactic| (replace $h := allLt_of $h; (try ((have hLt9 := Mine.lts_of $h); (dsimp +zetaDelta only [List.map] at hLt9))); simp +zetaDelta only [AllLt, and_true] at $h:ident))
local macro_rules | `(tactic| walk_at "my ne") => `(tactic| first | exact Nat.ne_of_lt (by with_reducible assumption) | exact pj1 (by with_reducible assumption) | exact pe2 (by with_reducible assumption) | exact pj2 (by with_reducible assumption))
local macro_rules | `(tactic| k_ne) => `(tactic| (refine neN ?_; (try dsimp only); first | with_reducible assumption | exact Ne.symm (by with_reducible assumption) | (with_reducible refine Mine.ltsF (by assumption) ?_; walk_at "my mm") | (with_reducible refine Mine.ltsB (by assumption) ?_; walk_at "my mm") | walk_at "my ne" | (refine Ne.symm ?_; walk_at "my ne") | omega))
local macro_rules | `(tactic| walk_at "getMethod ref") => `(tactic| (k_here; k_dflt (refine' Mine.method_instO ?k1 ?k2 ?k3 ?ko ?k4 ?k5 ?k6 ?k7 ?_; (case k1 => k_asm); (case k2 => k_asm); (case k3 => k_inst); (case ko => exact rfl); (case k4 => k_is); (case k5 => k_is); (case k6 => k_is); (case k7 => k_get); k_whole)))
local macro_rules | `(tactic| k_mem) => `(tactic| (goal_has Membership.mem; first | ktr_member | (refine Mine.mem_own (by with_reducible assumption) ?_; k_dflt (first | exact ⟨0, rfl⟩ | exact ⟨1, rfl⟩ | exact ⟨2, rfl⟩ | exact ⟨3, rfl⟩ | exact ⟨4, rfl⟩ | exact ⟨5, rfl⟩ | exact ⟨6, rfl⟩ | exact ⟨7, rfl⟩ | exact ⟨8, rfl⟩ | exact ⟨9, rfl⟩ | exact ⟨10, rfl⟩ | exact ⟨11, rfl⟩ | exact ⟨12, rfl⟩ | exact ⟨13, rfl⟩ | exact ⟨14, rfl⟩ | exact ⟨15, rfl⟩ | exact ⟨16, rfl⟩ | exact ⟨17, rfl⟩ | exact ⟨18, rfl⟩ | exact ⟨19, rfl⟩ | exact ⟨20, rfl⟩ | exact ⟨21, rfl⟩ | exact ⟨22, rfl⟩ | exact ⟨23, rfl⟩ | exact ⟨24, rfl⟩ | exact ⟨25, rfl⟩ | exact ⟨26, rfl⟩ | exact ⟨27, rfl⟩)) | exact Mine.mem_ix 0 rfl | exact Mine.mem_ix 1 rfl | exact Mine.mem_ix 2 rfl | exact Mine.mem_ix 3 rfl | exact Mine.mem_ix 4 rfl | exact Mine.mem_ix 5 rfl | exact Mine.mem_ix 6 rfl | exact Mine.mem_ix 7 rfl | exact Mine.mem_ix 8 rfl | exact Mine.mem_ix 9 rfl | (refine Mine.mem_dr 1 ?_; ktr_member) | (refine Mine.mem_dr 2 ?_; ktr_member) | (refine Mine.mem_dr 3 ?_; ktr_member) | (refine Mine.mem_dr 4 ?_; ktr_member) | (refine Mine.mem_dr 5 ?_; ktr_member) | (refine Mine.mem_dr 6 ?_; ktr_member) | (refine Mine.mem_dr 7 ?_; ktr_member) | (refine Mine.mem_dr 8 ?_; ktr_member) | (refine Mine.mem_dr 9 ?_; ktr_member) | (refine Mine.mem_dr10 rfl ?_; k_mem)))
local macro_rules | `(tactic| walk_at "getAttr ref") => `(tactic| (k_here; k_dflt (refine' Mine.get_ownO ?k1 ?k2 ?k3 ?ko ?k4 ?k5 ?k6 ?k7 ?k8 ?k9 ?_; (case k1 => with_reducible assumption); (case k2 => with_reducible assumption); (case k3 => k_inst); (case ko => exact rfl); (case k4 => k_is); (case k5 => k_is); (case k6 => k_is); (case k7 => k_is); (case k8 => k_get); (case k9 => k_handed); k_whole)))
local macro_rules | `(tactic| walk_at "my mm") => `(tactic| (with_reducible first | exact mm0 | exact mm1 | exact mm2 | exact mm3 | exact mm4 | exact mm5 | exact mm6 | exact mm7 | exact mm8 | exact mm9 | exact mm10 | exact mm11 | exact mm12 | exact mm13))
local macro_rules | `(tactic| k_all) => `(tactic| exact Mine.ltsA (by with_reducible assumption) (by exact rfl))
/-- what a row «self.x = e» of a constructor stores, for plain e -/
inductive Src where
  | int (i : Int) | str (x : Str) | bool (b : Bool) | none | name (x : Str) | list0 | dict0
inductive IsSrc : PySem.Expr → Src → Prop
  | int {i k p} : IsSrc (.Constant (.int i) k p) (.int i)
  | str {x k p} : IsSrc (.Constant (.str x) k p) (.str x)
  | bool {b k p} : IsSrc (.Constant (.bool b) k p) (.bool b)
  | none {k p} : IsSrc (.Constant .none k p) .none
  | name {x p} : IsSrc (.Name x p) (.name x)
  | list0 {p} : IsSrc (.List [] p) .list0
  | dict0 {p} : IsSrc (.Dict [] [] p) .dict0
inductive Stores (me : Str) : List Stmt → List (Str × Src) → List Stmt → Prop
  | nil {b} : Stores me b [] b
  | cons {p1 p2 p3 x e v b pl r} : IsSrc e v → Stores me b pl r → Stores me (.Assign [.Attribute (.Name me p1) x p2] e p3 :: b) ((x, v) :: pl) r
def srcVal (m : Str → Option Value) (T : Nat → Tok) (Ad : Nat → Addr) (i : Nat) : Src → Value
  | .int k => .int k (T (2 * i + 1))
  | .str x => .str x (T (2 * i + 1))
  | .bool b => .bool b
  | .none => .none
  | .name x => (m x).getD .none
  | .list0 => .ref (Ad i)
  | .dict0 => .ref (Ad i)
def entsF (P : Params) (m : Str → Option Value) (T : Nat → Tok) (Ad : Nat → Addr) : Nat → List (Str × Src) → List DictEntry
  | _, [] => []
  | i, (x, v) :: r => ⟨PyData.keyHash P x, .str x (T (2 * i)), srcVal m T Ad i v⟩ :: entsF P m T Ad (i + 1) r
def nameOk (m : Str → Option Value) (scope : Scope) : Src → Prop
  | .name y => (m y).isSome = true ∧ (envOf (Str.ofString "") scope 0 0 .none).kindOf y = some .local ∧ (y == ("__debug__" : Str)) = false
  | _ => True
def srcOk (K : Frag) (C : Addr) (m : Str → Option Value) (scope : Scope) : List (Str × Src) → Prop
  | [] => True
  | (x, v) :: r => takerIn K C x = some none ∧ nameOk m scope v ∧ srcOk K C m scope r
theorem srcVal_congr {m : Str → Option Value} {T T' : Nat → Tok} {Ad Ad' : Nat → Addr} {i : Nat} (h : ∀ j, 2 * i ≤ j → T j = T' j) (k : ∀ j, i ≤ j → Ad j = Ad' j) : ∀ v : Src, srcVal m T Ad i v = srcVal m T' Ad' i v
  | .int _ => by unfold srcVal; rw [h _ (by omega)]
  | .str _ => by unfold srcVal; rw [h _ (by omega)]
  | .bool _ => rfl
  | .none => rfl
  | .name _ => rfl
  | .list0 => by unfold srcVal; rw [k _ (Nat.le_refl _)]
  | .dict0 => by unfold srcVal; rw [k _ (Nat.le_refl _)]
theorem entsF_congr {P : Params} {m : Str → Option Value} {T T' : Nat → Tok} {Ad Ad' : Nat → Addr} : ∀ (pl : List (Str × Src)) (i : Nat), (∀ j, 2 * i ≤ j → T j = T' j) → (∀ j, i ≤ j → Ad j = Ad' j) → entsF P m T Ad i pl = entsF P m T' Ad' i pl
  | [], _, _, _ => rfl
  | (x, v) :: r, i, h, k => by
    unfold entsF
    rw [h _ (Nat.le_refl _), srcVal_congr h k v, entsF_congr r (i + 1) (fun j hj => h j (by omega)) fun j hj => k j (by omega)]
theorem putL_new {x : Str} {hs : Int} {key v : Value} : ∀ {es : List DictEntry}, es.any (·.key.isStr x) = false → putL x hs key v es = es ++ [⟨hs, key, v⟩]
  | [], _ => rfl
  | e :: r, h => by
    rw [List.any_cons, Bool.or_eq_false_iff] at h
    unfold putL
    rw [h.1]
    simp [putL_new h.2]
theorem getL_new {x : Str} {es : List DictEntry} (h : es.any (·.key.isStr x) = false) (hr : es.any (·.refKey) = false) : (getL x es).isSome = true := by
  unfold getL
  cases e : es.find? (fun x_1 => x_1.key.isStr x) with
  | some _ => rfl
  | none => simp [hr]
section
variable {prog : Program} {w : World} {A : Around} {E : Value → Shared → Prop} {K : Frag} {x C dx L a : Addr} {cd : Value} {h₀ : Heap} {m : Str → Option Value} {me qual : Str} {scope : Scope} {Q : Flow → Shared → Prop}
theorem src_eval {e : PySem.Expr} {v : Src} {s : Shared} {news : List (Addr × Obj)} {Q : Value → Shared → Prop} {i : Nat} (hv : IsSrc e v) (F : Fr h₀ L s.heap m) (N : News h₀ L s.heap news) (hbig : h₀.NoLimit) (hk : scope.kind = .function)
    (hn : nameOk m scope v)
    (h : ∀ h' tk t ad, Fr h₀ L h' m → News h₀ L h' news → Q (srcVal m (fun _ => t) (fun _ => ad) i v) { s with heap := h', toks := tk }) :
    wpAny (model prog w) A (eval e (envOf qual scope L a cd)) Q E s := by
  cases hv with
  | int => exact wpAny_Constant_int (h s.heap _ s.toks 0 F N)
  | str => exact wpAny_Constant_str (h s.heap _ s.toks 0 F N)
  | bool => exact wpAny_Constant_bool (h s.heap s.toks 0 0 F N)
  | none => exact wpAny_Constant_none (h s.heap s.toks 0 0 F N)
  | name =>
    obtain ⟨h1, h2, h3⟩ := hn
    obtain ⟨y, hy⟩ := Option.isSome_iff_exists.mp h1
    refine ld F hy ?_ hk h2 h3
    have q := h s.heap s.toks 0 0 F N
    change Q ((m _).getD .none) _ at q
    rw [hy] at q
    exact q
  | list0 =>
    refine List_ (args_nil ?_)
    refine newList_K F N (fun l h' F' N' _ => ?_) (Nat.zero_le _)
    exact h h' s.toks 0 l F' fun p hp => N' p (.tail _ hp)
  | dict0 =>
    refine newDict_K F N hbig fun d h' o F' N' _ _ _ _ _ _ => ?_
    exact h h' s.toks 0 d F' fun p hp => N' p (.tail _ hp)
theorem stores_ok {body : List Stmt} {plan : List (Str × Src)} {rest : List Stmt} (S : Stores me body plan rest) : ∀ {i n : Nat} {es : List DictEntry} {s : Shared} {news : Obj → List (Addr × Obj)}
    (_ : Fr h₀ L s.heap m) (_ : K.In h₀) (_ : News h₀ L s.heap (news (dictOf es n))) (_ : h₀.NoLimit) (_ : scope.kind = .function)
    (_ : m me = some (.ref x)) (_ : (envOf (Str.ofString "") scope 0 0 .none).kindOf me = some .local) (_ : (me == ("__debug__" : Str)) = false)
    (_ : ∀ o o', Upd dx o o' (news o) (news o')) (_ : ∀ o, (x, instObj C dx) ∈ news o)
    (_ : findIn K (.ref C) "__setattr__" = some (some (.builtin "object.__setattr__"))) (_ : plainOver K C = true) (_ : hasDictIn K C = true) (_ : srcOk K C m scope plan)
    (_ : es.any (·.refKey) = false) (_ : ∀ p ∈ plan, es.any (·.key.isStr p.1) = false) (_ : (plan.map (·.1)).Nodup) (_ : es.length + plan.length ≤ 1000)
    (_ : ∀ T Ad h' tk, Fr h₀ L h' m → News h₀ L h' (news (dictOf (es ++ entsF w.params m T Ad i plan) (n + plan.length))) → wpAny (model prog w) A (execs rest (envOf qual scope L a cd)) Q E { s with heap := h', toks := tk }),
    wpAny (model prog w) A (execs body (envOf qual scope L a cd)) Q E s := by
  induction S with
  | nil =>
    intro i n es s news F X N hbig hk hm hl hd U hx hs hp hh hok hr hf hnd hz h
    refine h (fun _ => 0) (fun _ => 0) s.heap s.toks F ?_
    simpa [entsF] using N
  | @cons p1 p2 p3 y e v b pl r hv _ ih =>
    intro i n es s news F X N hbig hk hm hl hd U hx hs hp hh hok hr hf hnd hz h
    obtain ⟨ht, hn, hok⟩ := hok
    have hfy := hf _ (.head _)
    dsimp only at hfy
    refine wpAny_execs_cons (plainObj_wpAny_Assign_Attribute ?_ (by cases hv <;> rfl))
    refine src_eval (i := i) hv F N hbig hk hn fun h1 tk1 t1 ad F1 N1 => ?_
    refine ld F1 hm ?_ hk hl hd
    have I : InstAt h1 x (instObj C dx) C (some (dictOf es n)) := InstAt.of_news N1 (hx _) (upd_old (U (dictOf es n) (dictOf es n)))
    refine set_dict (s := { s with heap := h1, toks := tk1 }) F1 X N1 I rfl hs hp ht hh (getL_new hfy hr) (Prod.ext (putL_new hfy) (show putN y es n = n + 1 by unfold putN; rw [hfy]; rfl)) (U _ _) (by rw [List.length_append]; simp only [List.length_cons, List.length_nil] at hz ⊢; omega) fun h2 F2 N2 => ?_
    dsimp only
    rw [List.map_cons, List.nodup_cons] at hnd
    refine ih (i := i + 1) F2 X N2 hbig hk hm hl hd U hx hs hp hh hok ?_ ?_ hnd.2 ?_ ?_
    · rw [List.any_append, hr]; rfl
    · intro p hp'
      rw [List.any_append, hf p (.tail _ hp')]
      have hne : y ≠ p.1 := fun e => hnd.1 (List.mem_map.mpr ⟨p, hp', e.symm⟩)
      simpa [Value.isStr] using hne
    · simp only [List.length_append, List.length_cons, List.length_nil] at hz ⊢; omega
    · intro T Ad h' tk F' N'
      refine h (fun j => if j < 2 * i + 2 then (if j = 2 * i then (tk1 + 1) else t1) else T j) (fun j => if j = i then ad else Ad j) h' tk F' ?_
      refine cast ?_ N'
      congr 3
      · rw [List.append_assoc]
        congr 1
        show _ :: entsF _ _ _ _ _ _ = entsF _ _ _ _ _ _
        rw [entsF]
        congr 1
        · congr 1
          · show Value.str _ _ = Value.str _ _
            simp
          · cases v <;> simp [srcVal]
        · exact entsF_congr _ _ (fun j hj => by rw [if_neg (by omega)]) fun j hj => by rw [if_neg (by omega)]
      · simp only [List.length_cons]; omega
theorem stores_run {body : List Stmt} {plan : List (Str × Src)} {rest : List Stmt} {n : Nat} {es : List DictEntry} {s : Shared} {news : Obj → List (Addr × Obj)} (S : Stores me body plan rest)
    (F : Fr h₀ L s.heap m) (X : K.In h₀) (N : News h₀ L s.heap (news (dictOf es n))) (nb : h₀.NoLimit) (hk : scope.kind = .function)
    (hm : m me = some (.ref x)) (hl : (envOf (Str.ofString "") scope 0 0 .none).kindOf me = some .local) (hd : (me == ("__debug__" : Str)) = false)
    (hx : ∀ o, (x, instObj C dx) ∈ news o) (U : ∀ o o', Upd dx o o' (news o) (news o'))
    (hs : findIn K (.ref C) "__setattr__" = some (some (.builtin "object.__setattr__"))) (hp : plainOver K C = true) (hh : hasDictIn K C = true) (ok : srcOk K C m scope plan)
    (hr : (es.any (·.refKey) || !(plan.all fun p => !es.any (·.key.isStr p.1))) = false) (nd : (plan.map (·.1)).Nodup) (hz : es.length + plan.length ≤ 1000)
    (k : ∀ T Ad h' tk, Fr h₀ L h' m → News h₀ L h' (news (dictOf (es ++ entsF w.params m T Ad 0 plan) (n + plan.length))) → wpAny (model prog w) A (execs rest (envOf qual scope L a cd)) Q E { s with heap := h', toks := tk }) :
    wpAny (model prog w) A (execs body (envOf qual scope L a cd)) Q E s := by
  rw [Bool.or_eq_false_iff, Bool.not_eq_false'] at hr
  exact stores_ok (i := 0) S F X N nb hk hm hl hd U hx hs hp hh ok hr.1 (fun p hp => by simpa using List.all_eq_true.mp hr.2 p hp) nd hz k
end
section
/-- the steps from one address to the next -/
def gaps : Nat → List Nat → List Nat
  | _, [] => []
  | i, a :: as => Nat.sub a i :: gaps (Nat.succ a) as
def asc : Nat → List Nat → Bool
  | _, [] => true
  | i, a :: as => cond (Nat.ble i a) (asc (Nat.succ a) as) false
def live : Option Obj → Option Obj
  | some ⟨_, _, .freed, _⟩ => none
  | o => o
theorem live_get (h : Heap) (a : Addr) : h.get? a = live (h.objs[a]?) := by
  show (match h.objs[a]? with | some ⟨_, _, .freed, _⟩ => none | o => o) = _
  generalize h.objs[a]? = o
  cases o with
  | none => rfl
  | some o => obtain ⟨c, d, x, sl⟩ := o; cases x <;> rfl
/-- the objects at written places, read off in one walk over the list -/
def pick : List Nat → List Obj → List (Option Obj)
  | [], _ => []
  | g :: gs, l => match l.drop g with
    | [] => []
    | o :: r => live (some o) :: pick gs r
theorem pick_get : ∀ (as : List Nat) (i : Nat) (l : List Obj) (ys : List (Option Obj)), asc i as = true → pick (gaps i as) (l.drop i) = ys → ys.length = as.length → as.map (fun a => live (l[a]?)) = ys
  | [], _, _, ys, _, _, hl => by
    have : ys = [] := List.length_eq_zero_iff.mp hl
    subst this; rfl
  | a :: as, i, l, ys, hs, hp, hl => by
    have hi : i ≤ a := by
      cases h : Nat.ble i a with
      | true => exact Nat.le_of_ble_eq_true h
      | false => simp only [asc, h, cond_false] at hs; cases hs
    have hs' : asc (a + 1) as = true := by
      have h : Nat.ble i a = true := Nat.ble_eq_true_of_le hi
      simpa only [asc, h, cond_true] using hs
    have hd : (l.drop i).drop (a - i) = l.drop a := by rw [List.drop_drop, Nat.add_sub_cancel' hi]
    have hp' : (match l.drop a with | [] => [] | o :: r => live (some o) :: pick (gaps (a + 1) as) r) = ys := by rw [← hd]; exact hp
    cases hq : l.drop a with
    | nil => rw [hq] at hp'; subst hp'; cases hl
    | cons o r =>
      rw [hq] at hp'
      subst hp'
      have hr : l.drop (a + 1) = r := by rw [← List.tail_drop, hq]; rfl
      have hg : l[a]? = some o := by
        have := List.head?_drop (l := l) (i := a)
        rw [hq] at this; exact this.symm
      have ih := pick_get as (a + 1) l (pick (gaps (a + 1) as) r) hs' (by rw [hr]) (Nat.succ.inj hl)
      rw [List.map_cons, hg, ih]
/-- the written part, looked at in one walk -/
def pHook (K : Params → Frag) (as : List Addr) (e : ∀ P, as = (K P).map (·.1)) (hs : asc 0 as = true) : Hook :=
  ⟨List (Option Obj), fun s => pick (gaps 0 as) s.heap.objs.toList, fun w => (K w.params).map fun p => some p.2, InK K,
   fun w s h => InK.of e w s (by
     have hl : ((K w.params).map fun p => some p.2).length = as.length := by rw [List.length_map, e w.params, List.length_map]
     refine Eq.trans (List.map_congr_left fun a _ => ?_) (pick_get as 0 s.heap.objs.toList _ hs (show pick (gaps 0 as) (s.heap.objs.toList.drop 0) = _ from h) hl)
     rw [live_get, Array.getElem?_toList]),
   InK.keeps⟩
theorem pIn_of {K : Params → Frag} {as : List Addr} {e : ∀ P, as = (K P).map (·.1)} {hs : asc 0 as = true} {w : World} {h : Heap} (Y : (pHook K as e hs).says w h) : (K w.params).In h := Y
end
section
/-- a builtin's name that no global hides -/
def IsB (P : Params) (x : Str) (v : Value) : Prop := nsIn (Mine.fr.heap_1_1 P) mainGlobals x = some none ∧ bootBuiltins x = some v ∧ x ≠ "__name__" ∧ (x == ("__debug__" : Str)) = false
/-- a global's name and its value -/
def IsG (P : Params) (x : Str) (v : Value) : Prop := nsIn (Mine.fr.heap_1_1 P) mainGlobals x = some (some v) ∧ (x == ("__debug__" : Str)) = false
variable {P : Params} {M : Model} {A : Around} {E : Value → Shared → Prop} {s : Shared} {h₀ : Heap} {L a : Addr} {m mg mb : Str → Option Value} {cn : Str} {n1 : List (Str × NameKind)} {n2 n3 : Bool} {n4 : List (Str × Const)} {ccd : Value} {p : Program} {loose : List Str} {mean : ExcName → Option Value}
  {x : Str} {pos : Pos} {v : Value} {Q : Value → Shared → Prop}
theorem nmB (F : Fr h₀ L s.heap m) (X : (Mine.fr.heap_1_1 P).In h₀) (T : Top p loose mean mg mb h₀) (e : IsB P x v) (hx : (envOf cn ⟨.function, n1, n2, n3, n4⟩ L a ccd).kindOf x = some .globalImplicit) (h : Q v s) :
    wpAny M A (eval (.Name x pos) (envOf cn ⟨.function, n1, n2, n3, n4⟩ L a ccd)) Q E s := nameX_B (cl := []) F X (topRead_of T) e.1 e.2.1 e.2.2.1 h rfl hx e.2.2.2
theorem nmG (F : Fr h₀ L s.heap m) (X : (Mine.fr.heap_1_1 P).In h₀) (T : Top p loose mean mg mb h₀) (e : IsG P x v) (hx : (envOf cn ⟨.function, n1, n2, n3, n4⟩ L a ccd).kindOf x = some .globalImplicit) (h : Q v s) :
    wpAny M A (eval (.Name x pos) (envOf cn ⟨.function, n1, n2, n3, n4⟩ L a ccd)) Q E s := nameX_K (cl := []) F X (topRead_of T) e.1 h rfl hx e.2
theorem nmL (F : Fr h₀ L s.heap m) (hv : m x = some v) (hx : (envOf cn ⟨.function, n1, n2, n3, n4⟩ L a ccd).kindOf x = some .local) (hd : (x == ("__debug__" : Str)) = false) (h : Q v s) :
    wpAny M A (eval (.Name x pos) (envOf cn ⟨.function, n1, n2, n3, n4⟩ L a ccd)) Q E s := ld F hv h rfl hx hd
theorem call_fn {prog : Program} {w : World} {K : Frag} {f : Addr} {pos : List Value} {kw : List (Str × Value)} (X : K.In h₀) (e : isFn K (.ref f) = true)
    (h : codeAny (model prog w) A (.call (.ref f) ⟨pos, kw⟩) (fun r s' => match r with | .ok (.ret v) => Q v s' | .ok _ => False | .error e => E e s') s) : wpAny (model prog w) A (call (.ref f) pos kw) Q E s := wpAny_call h
theorem names_known : PySem.Challenge.rw_on0075_01 = PySem.Challenge.rw_on0075_01 ∧ Mine.fr.heap_1_1 = Mine.fr.heap_1_1 := by (k_fill; exact ⟨rfl, rfl⟩)
/-- the names that the walk asks, read off once -/
theorem names_all : nsIn (Mine.fr.heap_1_1 P) mainGlobals "len" = some none ∧
  nsIn (Mine.fr.heap_1_1 P) mainGlobals "list" = some none ∧
  nsIn (Mine.fr.heap_1_1 P) mainGlobals "max" = some none ∧
  nsIn (Mine.fr.heap_1_1 P) mainGlobals "min" = some none ∧
  nsIn (Mine.fr.heap_1_1 P) mainGlobals "range" = some none ∧
  nsIn (Mine.fr.heap_1_1 P) mainGlobals "sorted" = some none ∧
  nsIn (Mine.fr.heap_1_1 P) mainGlobals "sum" = some none ∧
  nsIn (Mine.fr.heap_1_1 P) mainGlobals "BLANK" = some (some (.int 32 200)) ∧
  nsIn (Mine.fr.heap_1_1 P) mainGlobals "BufferTable" = some (some (.ref 578)) ∧
  nsIn (Mine.fr.heap_1_1 P) mainGlobals "CARET" = some (some (.int 94 204)) ∧
  nsIn (Mine.fr.heap_1_1 P) mainGlobals "DELETE" = some (some (.int 127 202)) ∧
  nsIn (Mine.fr.heap_1_1 P) mainGlobals "Editor" = some (some (.ref 810)) ∧
  nsIn (Mine.fr.heap_1_1 P) mainGlobals "Facts" = some (some (.ref 102)) ∧
  nsIn (Mine.fr.heap_1_1 P) mainGlobals "GapText" = some (some (.ref 224)) ∧
  nsIn (Mine.fr.heap_1_1 P) mainGlobals "LEAF" = some (some (.int 0 1433)) ∧
  nsIn (Mine.fr.heap_1_1 P) mainGlobals "Markers" = some (some (.ref 329)) ∧
  nsIn (Mine.fr.heap_1_1 P) mainGlobals "Matrix" = some (some (.ref 842)) ∧
  nsIn (Mine.fr.heap_1_1 P) mainGlobals "NEWLINE" = some (some (.int 10 196)) ∧
  nsIn (Mine.fr.heap_1_1 P) mainGlobals "Options" = some (some (.ref 39)) ∧
  nsIn (Mine.fr.heap_1_1 P) mainGlobals "Row" = some (some (.ref 884)) ∧
  nsIn (Mine.fr.heap_1_1 P) mainGlobals "TAB" = some (some (.int 9 198)) ∧
  nsIn (Mine.fr.heap_1_1 P) mainGlobals "Window" = some (some (.ref 940)) ∧
  nsIn (Mine.fr.heap_1_1 P) mainGlobals "WindowTree" = some (some (.ref 1011)) ∧
  nsIn (Mine.fr.heap_1_1 P) mainGlobals "_law_column" = some (some (.ref 1044)) ∧
  nsIn (Mine.fr.heap_1_1 P) mainGlobals "_law_draw" = some (some (.ref 1027)) ∧
  nsIn (Mine.fr.heap_1_1 P) mainGlobals "_law_line" = some (some (.ref 1049)) ∧
  nsIn (Mine.fr.heap_1_1 P) mainGlobals "columns_of" = some (some (.ref 85)) ∧
  nsIn (Mine.fr.heap_1_1 P) mainGlobals "echo_of" = some (some (.ref 127)) ∧
  nsIn (Mine.fr.heap_1_1 P) mainGlobals "facts_of" = some (some (.ref 120)) ∧
  nsIn (Mine.fr.heap_1_1 P) mainGlobals "need_writable" = some (some (.ref 589)) ∧
  nsIn (Mine.fr.heap_1_1 P) mainGlobals "point_in" = some (some (.ref 113)) ∧
  nsIn (Mine.fr.heap_1_1 P) mainGlobals "reached" = some (some (.ref 596)) ∧
  nsIn (Mine.fr.heap_1_1 P) mainGlobals "tell_ahead" = some (some (.ref 603)) ∧
  nsIn (Mine.fr.heap_1_1 P) mainGlobals "tell_behind" = some (some (.ref 610)) ∧
  nsIn (Mine.fr.heap_1_1 P) mainGlobals "width_of" = some (some (.ref 78)) ∧
  nsIn (Mine.fr.heap_1_1 P) mainGlobals "is_control" = some (some (.ref 50)) ∧
  nsIn (Mine.fr.heap_1_1 P) mainGlobals "is_raw" = some (some (.ref 57)) ∧
  nsIn (Mine.fr.heap_1_1 P) mainGlobals "shown_codes" = some (some (.ref 71)) ∧
  nsIn (Mine.fr.heap_1_1 P) mainGlobals "text_in" = some (some (.ref 617)) ∧
  nsIn (Mine.fr.heap_1_1 P) mainGlobals "put_in" = some (some (.ref 631)) ∧
  nsIn (Mine.fr.heap_1_1 P) mainGlobals "hung_in" = some (some (.ref 624)) ∧
  nsIn (Mine.fr.heap_1_1 P) mainGlobals "Amalgam" = some (some (.ref 656)) :=
  ⟨by k_dflt k_is, by k_dflt k_is, by k_dflt k_is, by k_dflt k_is, by k_dflt k_is, by k_dflt k_is, by k_dflt k_is, by k_dflt k_is, by k_dflt k_is, by k_dflt k_is, by k_dflt k_is, by k_dflt k_is, by k_dflt k_is, by k_dflt k_is, by k_dflt k_is, by k_dflt k_is, by k_dflt k_is, by k_dflt k_is, by k_dflt k_is, by k_dflt k_is, by k_dflt k_is, by k_dflt k_is, by k_dflt k_is, by k_dflt k_is, by k_dflt k_is, by k_dflt k_is, by k_dflt k_is, by k_dflt k_is, by k_dflt k_is, by k_dflt k_is, by k_dflt k_is, by k_dflt k_is, by k_dflt k_is, by k_dflt k_is, by k_dflt k_is, by k_dflt k_is, by k_dflt k_is, by k_dflt k_is, by k_dflt k_is, by k_dflt k_is, by k_dflt k_is, by k_dflt k_is⟩
theorem isB_len : IsB P "len" (.builtin "len") := ⟨names_all.1, by boot_fast, by decide +kernel, by kernel_rfl⟩
theorem isB_list : IsB P "list" (.type "list") := ⟨names_all.2.1, by boot_fast, by decide +kernel, by kernel_rfl⟩
theorem isB_max : IsB P "max" (.builtin "max") := ⟨names_all.2.2.1, by boot_fast, by decide +kernel, by kernel_rfl⟩
theorem isB_min : IsB P "min" (.builtin "min") := ⟨names_all.2.2.2.1, by boot_fast, by decide +kernel, by kernel_rfl⟩
theorem isB_range : IsB P "range" (.type "range") := ⟨names_all.2.2.2.2.1, by boot_fast, by decide +kernel, by kernel_rfl⟩
theorem isB_sorted : IsB P "sorted" (.builtin "sorted") := ⟨names_all.2.2.2.2.2.1, by boot_fast, by decide +kernel, by kernel_rfl⟩
theorem isB_sum : IsB P "sum" (.builtin "sum") := ⟨names_all.2.2.2.2.2.2.1, by boot_fast, by decide +kernel, by kernel_rfl⟩
theorem isG_BLANK : IsG P "BLANK" (.int 32 200) := ⟨names_all.2.2.2.2.2.2.2.1, by kernel_rfl⟩
theorem isG_BufferTable : IsG P "BufferTable" (.ref 578) := ⟨names_all.2.2.2.2.2.2.2.2.1, by kernel_rfl⟩
theorem isG_CARET : IsG P "CARET" (.int 94 204) := ⟨names_all.2.2.2.2.2.2.2.2.2.1, by kernel_rfl⟩
theorem isG_DELETE : IsG P "DELETE" (.int 127 202) := ⟨names_all.2.2.2.2.2.2.2.2.2.2.1, by kernel_rfl⟩
theorem isG_Editor : IsG P "Editor" (.ref 810) := ⟨names_all.2.2.2.2.2.2.2.2.2.2.2.1, by kernel_rfl⟩
theorem isG_Facts : IsG P "Facts" (.ref 102) := ⟨names_all.2.2.2.2.2.2.2.2.2.2.2.2.1, by kernel_rfl⟩
theorem isG_GapText : IsG P "GapText" (.ref 224) := ⟨names_all.2.2.2.2.2.2.2.2.2.2.2.2.2.1, by kernel_rfl⟩
theorem isG_LEAF : IsG P "LEAF" (.int 0 1433) := ⟨names_all.2.2.2.2.2.2.2.2.2.2.2.2.2.2.1, by kernel_rfl⟩
theorem isG_Markers : IsG P "Markers" (.ref 329) := ⟨names_all.2.2.2.2.2.2.2.2.2.2.2.2.2.2.2.1, by kernel_rfl⟩
theorem isG_Matrix : IsG P "Matrix" (.ref 842) := ⟨names_all.2.2.2.2.2.2.2.2.2.2.2.2.2.2.2.2.1, by kernel_rfl⟩
theorem isG_NEWLINE : IsG P "NEWLINE" (.int 10 196) := ⟨names_all.2.2.2.2.2.2.2.2.2.2.2.2.2.2.2.2.2.1, by kernel_rfl⟩
theorem isG_Options : IsG P "Options" (.ref 39) := ⟨names_all.2.2.2.2.2.2.2.2.2.2.2.2.2.2.2.2.2.2.1, by kernel_rfl⟩
theorem isG_Row : IsG P "Row" (.ref 884) := ⟨names_all.2.2.2.2.2.2.2.2.2.2.2.2.2.2.2.2.2.2.2.1, by kernel_rfl⟩
theorem isG_TAB : IsG P "TAB" (.int 9 198) := ⟨names_all.2.2.2.2.2.2.2.2.2.2.2.2.2.2.2.2.2.2.2.2.1, by kernel_rfl⟩
theorem isG_Window : IsG P "Window" (.ref 940) := ⟨names_all.2.2.2.2.2.2.2.2.2.2.2.2.2.2.2.2.2.2.2.2.2.1, by kernel_rfl⟩
theorem isG_WindowTree : IsG P "WindowTree" (.ref 1011) := ⟨names_all.2.2.2.2.2.2.2.2.2.2.2.2.2.2.2.2.2.2.2.2.2.2.1, by kernel_rfl⟩
theorem isG_law_column : IsG P "_law_column" (.ref 1044) := ⟨names_all.2.2.2.2.2.2.2.2.2.2.2.2.2.2.2.2.2.2.2.2.2.2.2.1, by kernel_rfl⟩
theorem isG_law_draw : IsG P "_law_draw" (.ref 1027) := ⟨names_all.2.2.2.2.2.2.2.2.2.2.2.2.2.2.2.2.2.2.2.2.2.2.2.2.1, by kernel_rfl⟩
theorem isG_law_line : IsG P "_law_line" (.ref 1049) := ⟨names_all.2.2.2.2.2.2.2.2.2.2.2.2.2.2.2.2.2.2.2.2.2.2.2.2.2.1, by kernel_rfl⟩
theorem isG_columns_of : IsG P "columns_of" (.ref 85) := ⟨names_all.2.2.2.2.2.2.2.2.2.2.2.2.2.2.2.2.2.2.2.2.2.2.2.2.2.2.1, by kernel_rfl⟩
theorem isG_echo_of : IsG P "echo_of" (.ref 127) := ⟨names_all.2.2.2.2.2.2.2.2.2.2.2.2.2.2.2.2.2.2.2.2.2.2.2.2.2.2.2.1, by kernel_rfl⟩
theorem isG_facts_of : IsG P "facts_of" (.ref 120) := ⟨names_all.2.2.2.2.2.2.2.2.2.2.2.2.2.2.2.2.2.2.2.2.2.2.2.2.2.2.2.2.1, by kernel_rfl⟩
theorem isG_need_writable : IsG P "need_writable" (.ref 589) := ⟨names_all.2.2.2.2.2.2.2.2.2.2.2.2.2.2.2.2.2.2.2.2.2.2.2.2.2.2.2.2.2.1, by kernel_rfl⟩
theorem isG_point_in : IsG P "point_in" (.ref 113) := ⟨names_all.2.2.2.2.2.2.2.2.2.2.2.2.2.2.2.2.2.2.2.2.2.2.2.2.2.2.2.2.2.2.1, by kernel_rfl⟩
theorem isG_reached : IsG P "reached" (.ref 596) := ⟨names_all.2.2.2.2.2.2.2.2.2.2.2.2.2.2.2.2.2.2.2.2.2.2.2.2.2.2.2.2.2.2.2.1, by kernel_rfl⟩
theorem isG_tell_ahead : IsG P "tell_ahead" (.ref 603) := ⟨names_all.2.2.2.2.2.2.2.2.2.2.2.2.2.2.2.2.2.2.2.2.2.2.2.2.2.2.2.2.2.2.2.2.1, by kernel_rfl⟩
theorem isG_tell_behind : IsG P "tell_behind" (.ref 610) := ⟨names_all.2.2.2.2.2.2.2.2.2.2.2.2.2.2.2.2.2.2.2.2.2.2.2.2.2.2.2.2.2.2.2.2.2.1, by kernel_rfl⟩
theorem isG_width_of : IsG P "width_of" (.ref 78) := ⟨names_all.2.2.2.2.2.2.2.2.2.2.2.2.2.2.2.2.2.2.2.2.2.2.2.2.2.2.2.2.2.2.2.2.2.2.1, by kernel_rfl⟩
theorem isG_is_control : IsG P "is_control" (.ref 50) := ⟨names_all.2.2.2.2.2.2.2.2.2.2.2.2.2.2.2.2.2.2.2.2.2.2.2.2.2.2.2.2.2.2.2.2.2.2.2.1, by kernel_rfl⟩
theorem isG_is_raw : IsG P "is_raw" (.ref 57) := ⟨names_all.2.2.2.2.2.2.2.2.2.2.2.2.2.2.2.2.2.2.2.2.2.2.2.2.2.2.2.2.2.2.2.2.2.2.2.2.1, by kernel_rfl⟩
theorem isG_shown_codes : IsG P "shown_codes" (.ref 71) := ⟨names_all.2.2.2.2.2.2.2.2.2.2.2.2.2.2.2.2.2.2.2.2.2.2.2.2.2.2.2.2.2.2.2.2.2.2.2.2.2.1, by kernel_rfl⟩
theorem isG_text_in : IsG P "text_in" (.ref 617) := ⟨names_all.2.2.2.2.2.2.2.2.2.2.2.2.2.2.2.2.2.2.2.2.2.2.2.2.2.2.2.2.2.2.2.2.2.2.2.2.2.2.1, by kernel_rfl⟩
theorem isG_put_in : IsG P "put_in" (.ref 631) := ⟨names_all.2.2.2.2.2.2.2.2.2.2.2.2.2.2.2.2.2.2.2.2.2.2.2.2.2.2.2.2.2.2.2.2.2.2.2.2.2.2.2.1, by kernel_rfl⟩
theorem isG_hung_in : IsG P "hung_in" (.ref 624) := ⟨names_all.2.2.2.2.2.2.2.2.2.2.2.2.2.2.2.2.2.2.2.2.2.2.2.2.2.2.2.2.2.2.2.2.2.2.2.2.2.2.2.2.1, by kernel_rfl⟩
theorem isG_Amalgam : IsG P "Amalgam" (.ref 656) := ⟨names_all.2.2.2.2.2.2.2.2.2.2.2.2.2.2.2.2.2.2.2.2.2.2.2.2.2.2.2.2.2.2.2.2.2.2.2.2.2.2.2.2.2, by kernel_rfl⟩
end
local macro_rules | `(tactic| walk_at "eval Name") => `(tactic| (k_here; (fail_if_success (fail_if_success (with_reducible show wpAny _ _ (eval (PySem.Expr.Name _ _) (envOf _ _ _ _ _)) _ _ _))); (with_reducible show wpAny _ _ (eval (PySem.Expr.Name _ _) (envOf _ _ _ _ _)) _ _ _); first | (name_kind "local"; k_dflt (refine' Mine.nmL ?k1 ?k2 ?k3 ?k4 ?_; (case k1 => with_reducible assumption); (case k2 => exact rfl); (case k3 => kernel_rfl); (case k4 => kernel_rfl); k_whole)) | (name_kind "globalImplicit"; name_is_builtin; k_dflt (refine' Mine.nmB ?k1 ?k2 ?k3 ?k4 ?k5 ?_; (case k1 => with_reducible assumption); (case k2 => with_reducible assumption); (case k3 => with_reducible assumption); (case k4 => (with_reducible first | exact isB_len | exact isB_list | exact isB_max | exact isB_min | exact isB_range | exact isB_sorted | exact isB_sum)); (case k5 => kernel_rfl); k_whole)) | (name_kind "globalImplicit"; k_dflt (refine' Mine.nmG ?k1 ?k2 ?k3 ?k4 ?k5 ?_; (case k1 => with_reducible assumption); (case k2 => with_reducible assumption); (case k3 => with_reducible assumption); (case k4 => (with_reducible first | exact isG_BLANK | exact isG_BufferTable | exact isG_CARET | exact isG_DELETE | exact isG_Editor | exact isG_Facts | exact isG_GapText | exact isG_LEAF | exact isG_Markers | exact isG_Matrix | exact isG_NEWLINE | exact isG_Options | exact isG_Row | exact isG_TAB | exact isG_Window | exact isG_WindowTree | exact isG_law_column | exact isG_law_draw | exact isG_law_line | exact isG_columns_of | exact isG_echo_of | exact isG_facts_of | exact isG_need_writable | exact isG_point_in | exact isG_reached | exact isG_tell_ahead | exact isG_tell_behind | exact isG_width_of | exact isG_is_control | exact isG_is_raw | exact isG_shown_codes | exact isG_text_in | exact isG_put_in | exact isG_hung_in | exact isG_Amalgam)); (case k5 => kernel_rfl); k_whole))))
/-- the deck: the list of the great cells, the sum, the count -/
abbrev deckO (c : Addr) (S : Int) (tS : Tok) (k : Int) (tk : Tok) (n : Nat) : Obj := listOf [Value.ref c, Value.int S tS, Value.int k tk].toArray n
section
variable {prog : Program} {w : World} {p : Program} {loose : List Str} {mean : ExcName → Option Value} {mg mb : Str → Option Value} {dp un : Nat} {gd : Option (List Code)} {cn : Str} {cs : Scope} {a : Addr} {ccd : Value} {cl : List (Str × Addr)} {outer : List Env} {A₀ : Around} {base h₀ : Heap} {L : Addr} {m : Str → Option Value} {s : Shared} {Q E : Value → Shared → Prop}

theorem draw_core {d c : Addr} {vs : List Value} {ns : List Int} {S k many : Int} {tS tk tm : Tok} {n nc : Nat} {own : List (Addr × Obj)}
    (B : Below A₀ base outer h₀) (F : Fr h₀ L s.heap m) (X : (Mine.fr.heap_1_1 w.params).In h₀)
    (N : News h₀ L s.heap ((d, deckO c S tS k tk n) :: (c, listOf vs.toArray nc) :: own))
    (T : Top p loose mean mg mb h₀) (hk : cs.kind = .function) (hi : IntsAre vs ns) (hlen : ns.length ≤ 24) (hoffd : ∀ p ∈ own, p.1 ≠ d) (hoffc : ∀ p ∈ own, p.1 ≠ c) (hdc : @Ne Nat d c) (hm : 0 < many) (hm2 : many < 1000)
    (hd : dp + 1 < recursionLimit) (hu : un + 200 < cLine)
    (ret : ∀ r t h' tk' vs' ns' k' tk2 n' nc', 0 ≤ r → r < many → IntsAre vs' ns' → ns'.length ≤ 24 → Fr h₀ L h' m →
      News h₀ L h' ((d, deckO c S tS k' tk2 n') :: (c, listOf vs'.toArray nc') :: own) → Q (.int r t) { s with heap := h', toks := tk' }) :
    wpAny (model prog w) (ktrTop dp un gd cn cs L a ccd cl outer) (call (.ref (1027 : Nat)) [.ref d, .int many tm]) Q E s := by
  refine Mine.unwrap ?_
  simp (disch := k_dflt (
  have _h : PySem.Challenge.rw_on0075_01 = PySem.Challenge.rw_on0075_01 ∧ Mine.fr.heap_1_1 = Mine.fr.heap_1_1 := by (k_fill; exact ⟨rfl, rfl⟩)
  clear _h
  w_top off
  refine wpAny_call ?_
  cases hi with
  | nil =>
    have hi : IntsAre [] [] := .nil
    ktr_enter
    repeat' ((first | ((fail_if_success (fail_if_success k_unfold)); (first | (with_reducible refine (?_ : wpAny _ _ _ _ _ _)) | (k_unfold; (try dsimp only)))) | ((fail_if_success (fail_if_success k_fold)); (first | (goal_has PySem.exec; (fail_if_success (fail_if_success (with_reducible show wpAny _ _ (exec _ _) _ _ _)))) | (goal_has PySem.Expr.BoolOp; (fail_if_success (fail_if_success (with_reducible show wpAny _ _ (eval (PySem.Expr.BoolOp _ _ _) _) _ _ _)))) | (goal_has PySem.Expr.Call; (fail_if_success (fail_if_success (with_reducible show wpAny _ _ (eval (PySem.Expr.Call _ _ _ _) _) _ _ _)))) | (goal_has PySem.Expr.Compare; (fail_if_success (fail_if_success (with_reducible show wpAny _ _ (eval (PySem.Expr.Compare _ _ _ _) _) _ _ _))))); (with_reducible refine Mine.wp_fold ?_); intro zqq zqe) | (goal_has PySem.Shared.mk; (with_reducible refine Mine.st_let ?_); intro zqs; goal_lacks PySem.Shared.mk) | ((ctx_mentions ite List.lookup); (rename Fr _ _ _ _ => zqF9); revert zqF9; (goal_has ite List.lookup); (with_reducible refine Mine.fr_let ?_); intro zqm; goal_lacks ite List.lookup; intro zqF) | ((ctx_mentions List.cons HAppend.hAppend List.append); (rename News _ _ _ _ => zqN9); (fail_if_success (fail_if_success (conv at zqN9 => arg 4; arg 2))); (with_reducible refine Mine.news_let zqN9 ?_); intro zql zqN; clear zqN9) | (k_end; wrow_close) | (goal_has subscriptTail; ((fail_if_success (fail_if_success (with_reducible show wpAny _ _ (subscriptTail _ _ (Value.ref _) (Value.int _ _)) _ _ _))); k_dflt (refine' item_litK (by exact News.isList (by k_asm) (by k_mem)) (by decide) (by decide) (by rfl) ?_ (by rfl); k_whole))) | (goal_has PySem.Value.builtin; ((fail_if_success (fail_if_success (with_reducible show wpAny _ _ (call (Value.builtin _) [Value.ref _, Value.int _ _]) _ _ _))); k_dflt (refine' Mine.pop0 (by k_asm) (by k_asm) (by k_upd) (by ((simp only [List.length_cons, sizeLine_eq]); omega)) ?_; k_whole); intro zqh' zqF' zqN'; (try k_sweep))) | (goal_has binaryOp; ((fail_if_success (fail_if_success (with_reducible show wpAny _ _ (binaryOp Operator.FloorDiv (Value.int _ _) (Value.int _ _)) _ _ _))); refine floordiv_int (by omega) ?_ (Or.inl (PyProof.noPylong_small (by omega))))) | (goal_has call; (fail_if_success (fail_if_success (with_reducible show wpAny _ _ (call (Value.ref _) _ _) _ _ _))); first | (k_dflt (first | (refine' call_cls0 (by k_asm) (by k_asm) (by k_asm) (by k_is) (by k_is) ?_; k_whole; intro zqx zqd zqh zqF zqN zql1 zql2; (try ((have zqU := Mine.lts_up zql1 zql2); (dsimp +zetaDelta only [List.map] at zqU))); (try k_lt zql1); (try k_lt2 zql2); (try k_sweep)) | ((first | (refine' call_cls (by k_asm) (by k_asm) (by k_asm) (by k_is) (by k_is) (by k_is) ?_; k_whole; intro zqx zqd zqh zqF zqN zql1 zql2; (try ((have zqU := Mine.lts_up zql1 zql2); (dsimp +zetaDelta only [List.map] at zqU))); (try k_lt zql1); (try k_lt2 zql2); (try k_sweep)) | (refine' Mine.call_fn (by k_asm) (by k_is) ?_; k_whole) | (refine' call_meth (by k_asm) (by k_mem) ?_; k_whole) | refine wpAny_call ?_); (first | (refine' code_defL (by exact rfl) (by exact rfl) (by first | exact rfl | assumption) (by k_asm) (by k_asm) (by k_asm) (by k_asm) (by k_asm) (by k_is) (by k_is) (by decide) (by ktr_room) (by first | exact BindsTo.of_eq rfl | exact binds_K (by k_in) rfl (by k_is) rfl rfl rfl) (by exact locs rfl) (by exact rfl) (by exact rfl) (by exact rfl) ?_; k_whole; intro zqg zqL zqh zqtk zqFG zqF zqN zqB zqX zqT zqe zqA; (try k_lift zqB); (try ((fail_if_success (fail_if_success k_fold)); (with_reducible refine Mine.wp_fold ?_); intro zqq zqe))) | (refine' code_defCL (by exact rfl) (by exact rfl) (by exact rfl) (by k_asm) (by k_asm) (by k_asm) (by k_asm) (by k_asm) (by k_is) (by k_is) (by ktr_room) (by first | exact BindsTo.of_eq rfl | exact binds_K (by k_in) rfl (by k_is) rfl rfl rfl) (by exact rfl) (by decide +kernel) (by exact rfl) (by exact rfl) (by exact rfl) ?_; k_whole; intro zqg zqL zqh zqtk zqcells zqFG zqF zqN zqY zqB zqX zqT zql1 zqe zqA; (try k_lt zql1); k_cells zqY; (try simp only [List.cons_append, List.nil_append] at zqN); (try dsimp only); (try k_lift zqB); (try ((fail_if_success (fail_if_success k_fold)); (with_reducible refine Mine.wp_fold ?_); intro zqq zqe)))))))) | walk1 | (dsimp only; walk1) | ((with_reducible show wpAny _ _ _ _ _ _); dsimp only) | (leave1; walk_say "STEP leave1"; (first | (with_reducible refine (?_ : wpAny _ _ _ _ _ _)) | try dsimp only))))
    all_goals (refine' ret _ _ _ _ [] [] _ _ _ _ (Int.fmod_nonneg_of_pos _ hm) (Int.fmod_lt_of_pos _ hm) .nil (Nat.zero_le _) ?e2 ?e3; (case e2 => k_asm); (case e3 => exact cb_drop (by assumption) (fun p hp => .tail _ hp)))
  | @cons x t vs' ns' hi' =>
    have hi : IntsAre (Value.int x t :: vs') (x :: ns') := .cons x t hi'
    have hpos : 0 < (x :: ns').length := Nat.succ_pos _
    have hlv := hi'.length
    have hln : ns'.length ≤ 23 := by simpa using hlen
    ktr_enter
    repeat' ((first | ((fail_if_success (fail_if_success k_unfold)); (first | (with_reducible refine (?_ : wpAny _ _ _ _ _ _)) | (k_unfold; (try dsimp only)))) | ((fail_if_success (fail_if_success k_fold)); (first | (goal_has PySem.exec; (fail_if_success (fail_if_success (with_reducible show wpAny _ _ (exec _ _) _ _ _)))) | (goal_has PySem.Expr.BoolOp; (fail_if_success (fail_if_success (with_reducible show wpAny _ _ (eval (PySem.Expr.BoolOp _ _ _) _) _ _ _)))) | (goal_has PySem.Expr.Call; (fail_if_success (fail_if_success (with_reducible show wpAny _ _ (eval (PySem.Expr.Call _ _ _ _) _) _ _ _)))) | (goal_has PySem.Expr.Compare; (fail_if_success (fail_if_success (with_reducible show wpAny _ _ (eval (PySem.Expr.Compare _ _ _ _) _) _ _ _))))); (with_reducible refine Mine.wp_fold ?_); intro zqq zqe) | (goal_has PySem.Shared.mk; (with_reducible refine Mine.st_let ?_); intro zqs; goal_lacks PySem.Shared.mk) | ((ctx_mentions ite List.lookup); (rename Fr _ _ _ _ => zqF9); revert zqF9; (goal_has ite List.lookup); (with_reducible refine Mine.fr_let ?_); intro zqm; goal_lacks ite List.lookup; intro zqF) | ((ctx_mentions List.cons HAppend.hAppend List.append); (rename News _ _ _ _ => zqN9); (fail_if_success (fail_if_success (conv at zqN9 => arg 4; arg 2))); (with_reducible refine Mine.news_let zqN9 ?_); intro zql zqN; clear zqN9) | (k_end; wrow_close) | (goal_has subscriptTail; ((fail_if_success (fail_if_success (with_reducible show wpAny _ _ (subscriptTail _ _ (Value.ref _) (Value.int _ _)) _ _ _))); k_dflt (refine' item_litK (by exact News.isList (by k_asm) (by k_mem)) (by decide) (by decide) (by rfl) ?_ (by rfl); k_whole))) | (goal_has PySem.Value.builtin; ((fail_if_success (fail_if_success (with_reducible show wpAny _ _ (call (Value.builtin _) [Value.ref _, Value.int _ _]) _ _ _))); k_dflt (refine' Mine.pop0 (by k_asm) (by k_asm) (by k_upd) (by ((simp only [List.length_cons, sizeLine_eq]); omega)) ?_; k_whole); intro zqh' zqF' zqN'; (try k_sweep))) | (goal_has binaryOp; ((fail_if_success (fail_if_success (with_reducible show wpAny _ _ (binaryOp Operator.FloorDiv (Value.int _ _) (Value.int _ _)) _ _ _))); refine floordiv_int (by omega) ?_ (Or.inl (PyProof.noPylong_small (by omega))))) | (goal_has call; (fail_if_success (fail_if_success (with_reducible show wpAny _ _ (call (Value.ref _) _ _) _ _ _))); first | (k_dflt (first | (refine' call_cls0 (by k_asm) (by k_asm) (by k_asm) (by k_is) (by k_is) ?_; k_whole; intro zqx zqd zqh zqF zqN zql1 zql2; (try ((have zqU := Mine.lts_up zql1 zql2); (dsimp +zetaDelta only [List.map] at zqU))); (try k_lt zql1); (try k_lt2 zql2); (try k_sweep)) | ((first | (refine' call_cls (by k_asm) (by k_asm) (by k_asm) (by k_is) (by k_is) (by k_is) ?_; k_whole; intro zqx zqd zqh zqF zqN zql1 zql2; (try ((have zqU := Mine.lts_up zql1 zql2); (dsimp +zetaDelta only [List.map] at zqU))); (try k_lt zql1); (try k_lt2 zql2); (try k_sweep)) | (refine' Mine.call_fn (by k_asm) (by k_is) ?_; k_whole) | (refine' call_meth (by k_asm) (by k_mem) ?_; k_whole) | refine wpAny_call ?_); (first | (refine' code_defL (by exact rfl) (by exact rfl) (by first | exact rfl | assumption) (by k_asm) (by k_asm) (by k_asm) (by k_asm) (by k_asm) (by k_is) (by k_is) (by decide) (by ktr_room) (by first | exact BindsTo.of_eq rfl | exact binds_K (by k_in) rfl (by k_is) rfl rfl rfl) (by exact locs rfl) (by exact rfl) (by exact rfl) (by exact rfl) ?_; k_whole; intro zqg zqL zqh zqtk zqFG zqF zqN zqB zqX zqT zqe zqA; (try k_lift zqB); (try ((fail_if_success (fail_if_success k_fold)); (with_reducible refine Mine.wp_fold ?_); intro zqq zqe))) | (refine' code_defCL (by exact rfl) (by exact rfl) (by exact rfl) (by k_asm) (by k_asm) (by k_asm) (by k_asm) (by k_asm) (by k_is) (by k_is) (by ktr_room) (by first | exact BindsTo.of_eq rfl | exact binds_K (by k_in) rfl (by k_is) rfl rfl rfl) (by exact rfl) (by decide +kernel) (by exact rfl) (by exact rfl) (by exact rfl) ?_; k_whole; intro zqg zqL zqh zqtk zqcells zqFG zqF zqN zqY zqB zqX zqT zql1 zqe zqA; (try k_lt zql1); k_cells zqY; (try simp only [List.cons_append, List.nil_append] at zqN); (try dsimp only); (try k_lift zqB); (try ((fail_if_success (fail_if_success k_fold)); (with_reducible refine Mine.wp_fold ?_); intro zqq zqe)))))))) | walk1 | (dsimp only; walk1) | ((with_reducible show wpAny _ _ _ _ _ _); dsimp only) | (leave1; walk_say "STEP leave1"; (first | (with_reducible refine (?_ : wpAny _ _ _ _ _ _)) | try dsimp only))))
    all_goals first
      | (exfalso; rename (decide (x :: ns' = []) = true) => hE; exact absurd (of_decide_eq_true hE) (List.cons_ne_nil _ _))
      | (refine' ret _ _ _ _ vs' ns' _ _ _ _ (Int.fmod_nonneg_of_pos _ hm) (Int.fmod_lt_of_pos _ hm) hi' ?e1 ?e2 ?e3; (case e1 => omega); (case e2 => k_asm); (case e3 => exact cb_drop (by assumption) (fun p hp => .tail _ hp)))
      | (refine' ret _ _ _ _ ((Value.int x t :: vs').set (Int.toNat 0) _) ((x :: ns').set (Int.toNat 0) _) _ _ _ _ (Int.fmod_nonneg_of_pos _ hm) (Int.fmod_lt_of_pos _ hm) (by assumption) ?e1 ?e2 ?e3; (case e1 => omega); (case e2 => k_asm); (case e3 => exact cb_drop (by assumption) (fun p hp => .tail _ hp)))
  )) only [↓Mine.wrap_i]

theorem draw_ok {d c : Addr} {vs : List Value} {ns : List Int} {S k many : Int} {tS tk tm : Tok} {n nc : Nat} {news : List (Addr × Obj)} {news₁ : Obj → List (Addr × Obj)} {news₂ : Obj → Obj → List (Addr × Obj)}
    (B : Below A₀ base outer h₀) (F : Fr h₀ L s.heap m) (X : (Mine.fr.heap_1_1 w.params).In h₀) (N : News h₀ L s.heap news) (T : Top p loose mean mg mb h₀) (hk : cs.kind = .function)
    (U1 : ∀ o', Upd d (deckO c S tS k tk n) o' news (news₁ o')) (U2 : ∀ o₁ o', Upd c (listOf vs.toArray nc) o' (news₁ o₁) (news₂ o₁ o'))
    (hi : IntsAre vs ns) (hlen : ns.length ≤ 24) (hm : 0 < many) (hm2 : many < 1000)
    (hd : dp + 1 < recursionLimit) (hu : un + 200 < cLine)
    (ret : ∀ r t h' tk' vs' ns' k' tk2 n' nc', 0 ≤ r → r < many → IntsAre vs' ns' → ns'.length ≤ 24 → Fr h₀ L h' m →
      News h₀ L h' (news₂ (deckO c S tS k' tk2 n') (listOf vs'.toArray nc')) → Q (.int r t) { s with heap := h', toks := tk' }) :
    wpAny (model prog w) (ktrTop dp un gd cn cs L a ccd cl outer) (call (.ref (1027 : Nat)) [.ref d, .int many tm]) Q E s := by
  have md := upd_old (U1 (deckO c S tS k tk n))
  have mc0 := upd_old (U2 (deckO c S tS k tk n) (listOf vs.toArray nc))
  have hdc : @Ne Nat d c := fun e => by
    rcases upd_mem (U1 (.mk .none none .plain #[])) _ (upd_old (U2 (.mk .none none .plain #[]) (listOf vs.toArray nc))) with q | q
    · cases (Prod.mk.inj q).2
    · exact q.2 e.symm
  have mc : (c, listOf vs.toArray nc) ∈ news := by
    rcases upd_mem (U1 (deckO c S tS k tk n)) _ mc0 with q | q
    · exact absurd (Prod.mk.inj q).1 (Ne.symm hdc)
    · exact q.1
  refine draw_core (S := S) (k := k) (tS := tS) (tk := tk) (n := n) (nc := nc) (own := news.filter fun p => p.1 != d && p.1 != c) B F X ?_ T hk hi hlen ?_ ?_ hdc hm hm2 hd hu ?_
  · intro p hp
    rcases List.mem_cons.mp hp with rfl | hp
    · exact N _ md
    · rcases List.mem_cons.mp hp with rfl | hp
      · exact N _ mc
      · exact N _ (List.mem_filter.mp hp).1
  · intro p hp
    have := (List.mem_filter.mp hp).2
    simp only [Bool.and_eq_true, bne_iff_ne] at this
    exact this.1
  · intro p hp
    have := (List.mem_filter.mp hp).2
    simp only [Bool.and_eq_true, bne_iff_ne] at this
    exact this.2
  · intro r t h' tk' vs' ns' k' tk2 n' nc' h0 h1 hi' hl' F' N'
    refine ret r t h' tk' vs' ns' k' tk2 n' nc' h0 h1 hi' hl' F' fun p hp => ?_
    rcases upd_mem (U2 _ _) p hp with e | ⟨e, ec⟩
    · rw [e]; exact N' _ (.tail _ (.head _))
    · rcases upd_mem (U1 _) p e with e | ⟨e, ed⟩
      · rw [e]; exact N' _ (.head _)
      · refine N' _ (.tail _ (.tail _ (List.mem_filter.mpr ⟨e, ?_⟩)))
        simp only [Bool.and_eq_true, bne_iff_ne]
        exact ⟨ed, ec⟩
end
theorem upd_same {d : Addr} {o : Obj} : ∀ {l l' : List (Addr × Obj)}, Upd d o o l l' → l' = l
  | _, _, .head _ => rfl
  | _, _, .tail _ r => by rw [upd_same r]
theorem upd_addr {d : Addr} {o o' : Obj} {l l' : List (Addr × Obj)} (U : Upd d o o' l l') : ∀ p ∈ l', ∃ q ∈ l, q.1 = p.1 := fun p hp => by
  rcases upd_mem U p hp with e | e
  · exact ⟨_, upd_old U, by rw [e]⟩
  · exact ⟨p, e.1, rfl⟩
theorem off1_ne {D : Addr} : ∀ {l : List (Addr × Obj)}, LCg.Off1 D l → ∀ p ∈ l, p.1 ≠ D
  | [], _, _, h => nomatch h
  | _ :: _, x, p, h => by
    rcases List.mem_cons.mp h with rfl | h
    · exact x.1
    · exact off1_ne x.2 p h
/-- a turn's end in a comprehension that draws -/
def CdEnd (h₀ : Heap) (L : Addr) (m : Str → Option Value) (s₁ : Shared) (I C D : Addr) (oI oC : Obj) (ys : List Value) (news₂ : Obj → Obj → List (Addr × Obj)) (c : Addr) (S : Int) (tS : Tok) (Ok : Value → Prop) (y : Value) (s₂ : Shared) : Prop :=
  ∃ h' tk' vs' ns' k' tk2 n' nc', s₂ = { s₁ with heap := h', toks := tk' } ∧ IntsAre vs' ns' ∧ ns'.length ≤ 24 ∧ Ok y ∧ Fr h₀ L h' m ∧
    News h₀ L h' ((I, oI) :: (C, oC) :: (D, LCg.lst ys) :: news₂ (deckO c S tS k' tk2 n') (listOf (List.toArray vs') nc'))
section
variable {prog : Program} {w : World} {A : Around} {h₀ : Heap} {L : Addr} {m : Str → Option Value} {env : Env} {elt : PySem.Expr} {x : Str} {scope : Scope} {cl : List (Str × Addr)} {s : Shared} {P : Nat → Value → Prop} {Fin : List Value → List (Addr × Obj) → Prop} {news : List (Addr × Obj)} {news₁ : Obj → List (Addr × Obj)} {news₂ : Obj → Obj → List (Addr × Obj)}
theorem comp_deck {num : Nat} {d c : Addr} {vs : List Value} {ns : List Int} {S k : Int} {tS tk : Tok} {n nc : Nat} (Ok : Value → Prop)
    (U1 : ∀ o', Upd d (deckO c S tS k tk n) o' news (news₁ o')) (U2 : ∀ o₁ o', Upd c (listOf vs.toArray nc) o' (news₁ o₁) (news₂ o₁ o')) (hi : IntsAre vs ns) (hlen : ns.length ≤ 24)
    (turn : ∀ v I oI C oC D m₂ ys h tk0 (E' : Value → Shared → Prop) vs' ns' k' tk' n' nc', IntsAre vs' ns' → ns'.length ≤ 24 → LCg.NsObj oC m₂ → m₂ x = some v → Fr h₀ L h m →
      News h₀ L h ((I, oI) :: (C, oC) :: (D, LCg.lst ys) :: news₂ (deckO c S tS k' tk' n') (listOf (List.toArray vs') nc')) → LCg.Off3 I C D (news₂ (deckO c S tS k' tk' n') (listOf (List.toArray vs') nc')) → ((@Ne Nat I C) ∧ (@Ne Nat I D) ∧ (@Ne Nat C D)) →
      wpAny (model prog w) A (eval elt (compEnvC scope cl C env)) (CdEnd h₀ L m { s with heap := h, toks := tk0 } I C D oI oC ys news₂ c S tS Ok) E' { s with heap := h, toks := tk0 })
    (fin : ∀ ys vs' ns' k' tk' n' nc', ys.length = num → (∀ y ∈ ys, Ok y) → IntsAre vs' ns' → ns'.length ≤ 24 → Fin ys (news₂ (deckO c S tS k' tk' n') (listOf (List.toArray vs') nc'))) :
    LCg.CompRest prog w A h₀ L m env elt x scope cl s (fun _ => True) P Fin num 0 [] news := by
  have key : ∀ (j i : Nat) (ys : List Value) vs' ns' k' tk' n' nc', i + j = num → ys.length = i → (∀ y ∈ ys, Ok y) → IntsAre vs' ns' → ns'.length ≤ 24 →
      LCg.CompRest prog w A h₀ L m env elt x scope cl s (fun _ => True) P Fin j i ys (news₂ (deckO c S tS k' tk' n') (listOf (List.toArray vs') nc')) := by
    intro j
    induction j with
    | zero =>
      intro i ys vs' ns' k' tk' n' nc' hij hl hok hi' hl'
      exact LCg.CompRest.zero (fin ys vs' ns' k' tk' n' nc' (by omega) hok hi' hl')
    | succ j ih =>
      intro i ys vs' ns' k' tk' n' nc' hij hl hok hi' hl'
      refine LCg.CompRest.succ ?_
      intro v I oI C oC D m₂ h tk0 E' _ hC hx F N off ne
      refine wpAny_mono (turn v I oI C oC D m₂ ys h tk0 E' vs' ns' k' tk' n' nc' hi' hl' hC hx F N off ne) (fun y s₂ hq => ?_) fun _ _ e => e
      obtain ⟨h', tk2', vs2, ns2, k2, tk2, n2, nc2, e, hi2, hl2, hy, F', N'⟩ := hq
      refine ⟨h', tk2', _, e, F', N', LCg.Off3.of fun p hp => ?_, trivial, ih (i + 1) (ys ++ [y]) vs2 ns2 k2 tk2 n2 nc2 (by omega) (by rw [List.length_append, hl]; rfl) ?_ hi2 hl2⟩
      · obtain ⟨q, hq, eq⟩ := upd_addr (U2 _ _) p hp
        obtain ⟨r, hr, er⟩ := upd_addr (U1 _) q hq
        obtain ⟨q2, hq2, eq2⟩ : ∃ q ∈ news₂ (deckO c S tS k' tk' n') (listOf (List.toArray vs') nc'), q.1 = p.1 := by
          rw [← eq, ← er]
          -- r ∈ news : its address stands in every ledger
          by_cases h1 : r.1 = d
          · by_cases h2 : d = c
            · exact ⟨_, by
                have := (U2 (deckO c S tS k' tk' n') (listOf (List.toArray vs') nc')).split
                obtain ⟨pre, post, _, e2, _, _⟩ := this
                rw [e2]; exact List.mem_append.mpr (.inr (.head _)), by rw [h1, h2]⟩
            · refine ⟨(d, deckO c S tS k' tk' n'), ?_, h1.symm⟩
              obtain ⟨pre, post, e1, e2, _, _⟩ := (U2 (deckO c S tS k' tk' n') (listOf (List.toArray vs') nc')).split
              have hm : (d, deckO c S tS k' tk' n') ∈ news₁ (deckO c S tS k' tk' n') := by
                obtain ⟨pr, po, _, e4, _, _⟩ := (U1 (deckO c S tS k' tk' n')).split
                rw [e4]; exact List.mem_append.mpr (.inr (.head _))
              rw [e1] at hm
              rw [e2]
              rcases List.mem_append.mp hm with hm | hm
              · exact List.mem_append.mpr (.inl hm)
              · rcases List.mem_cons.mp hm with hm | hm
                · exact absurd (Prod.mk.inj hm).1 h2
                · exact List.mem_append.mpr (.inr (.tail _ hm))
          · have hm : r ∈ news₁ (deckO c S tS k' tk' n') := by
              obtain ⟨pr, po, e3, e4, _, _⟩ := (U1 (deckO c S tS k' tk' n')).split
              rw [e3] at hr
              rw [e4]
              rcases List.mem_append.mp hr with hm | hm
              · exact List.mem_append.mpr (.inl hm)
              · rcases List.mem_cons.mp hm with hm | hm
                · exact absurd (congrArg Prod.fst hm) h1
                · exact List.mem_append.mpr (.inr (.tail _ hm))
            by_cases h2 : r.1 = c
            · exact ⟨_, by
                have := (U2 (deckO c S tS k' tk' n') (listOf (List.toArray vs') nc')).split
                obtain ⟨pre, post, _, e2, _, _⟩ := this
                rw [e2]; exact List.mem_append.mpr (.inr (.head _)), h2.symm⟩
            · refine ⟨r, ?_, rfl⟩
              obtain ⟨pr, po, e3, e4, _, _⟩ := (U2 (deckO c S tS k' tk' n') (listOf (List.toArray vs') nc')).split
              rw [e3] at hm
              rw [e4]
              rcases List.mem_append.mp hm with hm | hm
              · exact List.mem_append.mpr (.inl hm)
              · rcases List.mem_cons.mp hm with hm | hm
                · exact absurd (congrArg Prod.fst hm) h2
                · exact List.mem_append.mpr (.inr (.tail _ hm))
        rw [← eq2]
        exact off.mem q2 hq2
      · intro z hz
        rcases List.mem_append.mp hz with hz | hz
        · exact hok z hz
        · rw [List.mem_singleton.mp hz]; exact hy
  have e : news₂ (deckO c S tS k tk n) (listOf vs.toArray nc) = news := by rw [upd_same (U2 _ _), upd_same (U1 _)]
  rw [← e]
  exact key num 0 [] vs ns k tk n nc (by omega) rfl (fun _ h => nomatch h) hi hlen
end
/-- the signs of a drawn buffer -/
def codeOk (v : Int) : Prop := v = 97 ∨ v = 98 ∨ v = 10 ∨ v = 9 ∨ v = 1
def OkCode (y : Value) : Prop := ∃ v t, y = .int v t ∧ codeOk v
theorem ints_of_ok : ∀ {ys : List Value}, (∀ y ∈ ys, OkCode y) → ∃ ks : List Int, IntsAre ys ks ∧ ∀ v ∈ ks, codeOk v
  | [], _ => ⟨[], .nil, fun _ h => nomatch h⟩
  | y :: r, h => by
    obtain ⟨v, t, rfl, hv⟩ := h y (.head _)
    obtain ⟨ks, hi, hk⟩ := ints_of_ok (ys := r) fun z hz => h z (.tail _ hz)
    exact ⟨v :: ks, .cons v t hi, fun z hz => by
      rcases List.mem_cons.mp hz with rfl | hz
      · exact hv
      · exact hk z hz⟩
/-- an entry of an own object's dict -/
abbrev en (P : Params) (x : String) (t : Tok) (v : Value) : DictEntry := ⟨PyData.keyHash P (Str.ofString x), .str (Str.ofString x) t, v⟩
def tokF (l : List Tok) : Nat → Tok := fun i => l.getD i 0
/-- a buffer's dict -/
abbrev bufO (P : Params) (T : Nat → Tok) (nm : Str) (g mk li : Addr) (pt bv zv tk ck sv : Int) (ro : Bool) : Obj := dictOf [
  en P "number" (T 0) (.int 1 (T 20)), en P "name" (T 1) (.str nm (T 21)), en P "text" (T 2) (.ref g), en P "markers" (T 3) (.ref mk),
  en P "point" (T 4) (.int pt (T 22)), en P "begv" (T 5) (.int bv (T 23)), en P "zv" (T 6) (.int zv (T 24)), en P "mark" (T 7) .none,
  en P "is_live" (T 8) (.bool true), en P "is_read_only" (T 9) (.bool ro), en P "ticks" (T 10) (.int tk (T 25)), en P "codes_ticks" (T 11) (.int ck (T 26)),
  en P "saved_ticks" (T 12) (.int sv (T 27)), en P "listeners" (T 13) (.ref li), en P "undo" (T 14) .none, en P "props" (T 15) .none,
  en P "overlays" (T 16) .none, en P "locals" (T 17) .none, en P "syntax" (T 18) .none, en P "file" (T 19) .none] 20
/-- a gap text's dict -/
abbrev gapO (P : Params) (T : Nat → Tok) (ce : Addr) (gs ge : Int) : Obj := dictOf [
  en P "room" (T 0) (.int 8 (T 4)), en P "cells" (T 1) (.ref ce), en P "gap_start" (T 2) (.int gs (T 5)), en P "gap_end" (T 3) (.int ge (T 6))] 4
/-- what _law_buffer hands on, apart from what changes later -/
structure LB (P : Params) (tp d c b bd g gp ce cd : Addr) (T2 : Nat → Tok) (nm : Str) (bv zv gs ge : Int) (wz wc : List Value) (zz pad z0 : List Int) (nce ncd ntp : Nat) (own : List (Addr × Obj)) : Prop where
  mtp : (tp, ({ cls := .type "tuple", data := .seq #[.ref b, .ref cd] ntp } : Obj)) ∈ own
  mb : (b, instObj 435 bd) ∈ own
  mg : (g, instObj 224 gp) ∈ own
  mgp : (gp, gapO P T2 ce gs ge) ∈ own
  mce : (ce, listOf wz.toArray nce) ∈ own
  mcd : (cd, listOf wc.toArray ncd) ∈ own
  hz : IntsAre wz zz
  hc : IntsAre wc z0
  ez : zz = z0 ++ pad
  egs : gs = (z0.length : Int)
  ege : ge = (zz.length : Int)
  hzz : zz.length ≤ 100
  hl0 : z0.length ≤ 20
  hcode : ∀ x ∈ z0, codeOk x
  hb1 : 1 ≤ bv
  hb2 : bv ≤ zv
  hb3 : zv ≤ (z0.length : Int) + 1
  hnm : PyData.strOk nm = true
  hdb : @Ne Nat d bd
  hcb : @Ne Nat c bd
  offd : ∀ p ∈ own, p.1 ≠ d
  offc : ∀ p ∈ own, p.1 ≠ c
  offb : ∀ p ∈ own, p.1 ≠ bd
/-- a state with a ledger read off parameters -/
def NowAt {σ : Type} (h₀ : Heap) (L : Addr) (m : Str → Option Value) (s : Shared) (Led : σ → List (Addr × Obj)) (J : σ → Prop) (s' : Shared) : Prop := ∃ h' tk' c, s' = { s with heap := h', toks := tk' } ∧ Fr h₀ L h' m ∧ News h₀ L h' (Led c) ∧ J c
def NowF {σ : Type} {h₀ h : Heap} {L : Addr} {m : Str → Option Value} (_ : Fr h₀ L h m) (s : Shared) (Led : σ → List (Addr × Obj)) (J : σ → Prop) (s' : Shared) : Prop := NowAt h₀ L m s Led J s'
section
variable {M : Model} {A : Around} {E : Value → Shared → Prop} {s : Shared} {env : Env} {st : Stmt} {Q : Flow → Shared → Prop}
/-- the ways of a statement meet behind it -/
theorem exec_join (R : Shared → Prop) (h1 : wpAny M A (exec st env) (fun f s' => f = .next ∧ R s') E s) (h2 : ∀ s', R s' → Q .next s') : wpAny M A (exec st env) Q E s :=
  wpAny_mono h1 (fun f s' hq => by obtain ⟨e, r⟩ := hq; subst e; exact h2 s' r) (fun _ _ e => e)
end
/-- behind «bottom = ..» -/
def VarAt {h₀ h : Heap} {L : Addr} {m : Str → Option Value} {news : List (Addr × Obj)} (_ : Fr h₀ L h m) (_ : News h₀ L h news) (s : Shared) (x : Str) (b : Int) (s' : Shared) : Prop :=
  ∃ h' tk' t, s' = { s with heap := h', toks := tk' } ∧ Fr h₀ L h' (fun y => if y = x then some (.int b t) else m y) ∧ News h₀ L h' news
section
variable {prog : Program} {w : World} {p : Program} {loose : List Str} {mean : ExcName → Option Value} {mg mb : Str → Option Value} {dp un : Nat} {gd : Option (List Code)} {cn : Str} {cnm : List (Str × NameKind)} {cg cc : Bool} {cm : List (Str × Const)} {a : Addr} {ccd : Value} {cl : List (Str × Addr)} {outer : List Env} {A₀ : Around} {base h₀ : Heap} {L : Addr} {m : Str → Option Value} {s : Shared} {Q E : Value → Shared → Prop}

theorem gap_len {n q : Nat} (h : q ≤ n) : min (Int.toNat 0) n + q + (n - max (Int.toNat 0) (Int.toNat (0 + (q : Int)))) = n := by
  rw [Int.zero_add, Int.toNat_natCast, show Int.toNat 0 = 0 from rfl, Nat.zero_min, Nat.zero_add, Nat.max_eq_right (Nat.zero_le _)]
  exact Nat.add_sub_of_le h
theorem mv_zero {ge : Int} {n : Nat} (h : (n : Int) = ge) : min (Int.toNat (ge + 0 - 0)) n - ge.toNat = 0 := by
  subst h
  rw [Int.add_zero, Int.sub_zero, Int.toNat_natCast, Nat.min_self, Nat.sub_self]
theorem mv_len {ge : Int} {n : Nat} (h : (n : Int) = ge) : ((min (Int.toNat 0) n + 0 + (n - max (Int.toNat 0) (Int.toNat (0 + ((0 : Nat) : Int)))) : Nat) : Int) = ge := by
  simpa using h
/-- widen_gap upon a fresh text -/
theorem widen_core {T2 : Nat → Tok} {t : Tok} {k : Int} {g gp ce : Addr} {nce : Nat} {zs : List Value} {z0 : List Int} {own : List (Addr × Obj)}
    (B : Below A₀ base outer h₀) (F : Fr h₀ L s.heap m) (X : (Mine.fr.heap_1_1 w.params).In h₀)
    (N : News h₀ L s.heap ((ce, listOf zs.toArray nce) :: (gp, gapO w.params T2 ce 0 8) :: own))
    (T : Top p loose mean mg mb h₀) (mg' : (g, instObj 224 gp) ∈ own) (hz : IntsAre zs z0) (hz8 : z0.length = 8) (hk0 : 0 ≤ k) (hk : k ≤ 20)
    (o1 : ∀ p ∈ own, p.1 ≠ ce) (o2 : ∀ p ∈ own, p.1 ≠ gp) (hcg : @Ne Nat ce gp)
    (hd : dp + 2 < recursionLimit) (hu : un + 100 < cLine)
    (ret : ∀ h' tk' ws z1 T2' n' ge, IntsAre ws z1 → (z1.length : Int) = ge → k ≤ ge → ge ≤ 40 → 8 ≤ ge → Fr h₀ L h' m →
      News h₀ L h' ((ce, listOf (List.toArray ws) n') :: (gp, gapO w.params T2' ce 0 ge) :: own) → Q .none { s with heap := h', toks := tk' }) :
    wpAny (model prog w) (ktrTop dp un gd cn ⟨.function, cnm, cg, cc, cm⟩ L a ccd cl outer) (call (.ref (186 : Nat)) [.ref g, .int k t]) Q E s := by
  refine Mine.unwrap ?_
  simp (disch := k_dflt (
  have _h : PySem.Challenge.rw_on0075_01 = PySem.Challenge.rw_on0075_01 ∧ Mine.fr.heap_1_1 = Mine.fr.heap_1_1 := by (k_fill; exact ⟨rfl, rfl⟩)
  clear _h
  w_top off
  repeat' ((first | ((fail_if_success (fail_if_success k_unfold)); (first | (with_reducible refine (?_ : wpAny _ _ _ _ _ _)) | (k_unfold; (try dsimp only)))) | ((fail_if_success (fail_if_success k_fold)); (first | (goal_has PySem.exec; (fail_if_success (fail_if_success (with_reducible show wpAny _ _ (exec _ _) _ _ _)))) | (goal_has PySem.Expr.BoolOp; (fail_if_success (fail_if_success (with_reducible show wpAny _ _ (eval (PySem.Expr.BoolOp _ _ _) _) _ _ _)))) | (goal_has PySem.Expr.Call; (fail_if_success (fail_if_success (with_reducible show wpAny _ _ (eval (PySem.Expr.Call _ _ _ _) _) _ _ _)))) | (goal_has PySem.Expr.Compare; (fail_if_success (fail_if_success (with_reducible show wpAny _ _ (eval (PySem.Expr.Compare _ _ _ _) _) _ _ _))))); (with_reducible refine Mine.wp_fold ?_); intro zqq zqe) | (goal_has PySem.Shared.mk; (with_reducible refine Mine.st_let ?_); intro zqs; goal_lacks PySem.Shared.mk) | ((ctx_mentions ite List.lookup); (rename Fr _ _ _ _ => zqF9); revert zqF9; (goal_has ite List.lookup); (with_reducible refine Mine.fr_let ?_); intro zqm; goal_lacks ite List.lookup; intro zqF) | ((ctx_mentions List.cons HAppend.hAppend List.append); (rename News _ _ _ _ => zqN9); (fail_if_success (fail_if_success (conv at zqN9 => arg 4; arg 2))); (with_reducible refine Mine.news_let zqN9 ?_); intro zql zqN; clear zqN9) | (k_end; wrow_close) | (goal_has binaryOp; ((fail_if_success (fail_if_success (with_reducible show wpAny _ _ (binaryOp Operator.Mult (Value.ref _) (Value.int _ _)) _ _ _))); k_dflt (refine' Mine.rep_list (by k_asm) (by k_asm) (by k_mem) (by first | decide | omega) (by first | decide | omega) ?_); intro zqD' zqh' zqws' zqzs' zqhzs' zqhzl' zqhzi' zqF' zqN' zql1; (try k_lt zql1); (try k_sweep))) | (goal_has subscriptTail; ((fail_if_success (fail_if_success (with_reducible show wpAny _ _ (subscriptTail _ (PySem.Expr.Slice _ _ none _) (Value.ref _) (Value.ref _)) _ _ _))); k_dflt (refine' Mine.cut_slice (by k_asm) (by k_asm) (by k_mem) (by exact IsPart.int _ _) (by exact IsPart.int _ _) (by first | decide | omega) (by first | decide | omega) (by assumption) (by first | assumption | exact rfl) (by omega) ?_ (by with_unfolding_all rfl) (by kmk_pure)); intro zqD' zqh' zqws' zqzs' zqhzs' zqhzl' zqhzi' zqF' zqN' zql1; (try k_lt zql1); (try k_sweep))) | (goal_has setItem; ((fail_if_success (fail_if_success (with_reducible show wpAny _ _ (setItem (Value.ref _) (Value.ref _) (Value.ref _)) _ _ _))); k_dflt (refine' Mine.set_slice_ints (by k_asm) (by k_asm) (by exact IsPart.int _ _) (by exact IsPart.int _ _) (by (intro zqo'; k_upd)) (by k_mem) (by first | decide | omega) (by first | decide | omega) (by k_ne) (by assumption) (by first | assumption | exact IntsAre.nil) (by first | assumption | exact rfl) (by first | assumption | exact rfl) (by omega) ?_); intro zqh' zqws' zqzs' zqn' zqhzs' zqhzl' zqhzi' zqF' zqN'; (try dsimp only at zqN'); (try k_sweep))) | (goal_has PySem.Value.builtin; ((fail_if_success (fail_if_success (with_reducible show wpAny _ _ (call (Value.builtin "len") [Value.ref _]) _ _ _))); k_dflt (refine' kst_len (by k_asm) (by k_mem) (by exact IntsAre.length (by assumption)) (by omega) ?_; k_whole))) | (goal_has call; (fail_if_success (fail_if_success (with_reducible show wpAny _ _ (call (Value.ref _) _ _) _ _ _))); first | (k_dflt (first | (refine' call_cls0 (by k_asm) (by k_asm) (by k_asm) (by k_is) (by k_is) ?_; k_whole; intro zqx zqd zqh zqF zqN zql1 zql2; (try ((have zqU := Mine.lts_up zql1 zql2); (dsimp +zetaDelta only [List.map] at zqU))); (try k_lt zql1); (try k_lt2 zql2); (try k_sweep)) | ((first | (refine' call_cls (by k_asm) (by k_asm) (by k_asm) (by k_is) (by k_is) (by k_is) ?_; k_whole; intro zqx zqd zqh zqF zqN zql1 zql2; (try ((have zqU := Mine.lts_up zql1 zql2); (dsimp +zetaDelta only [List.map] at zqU))); (try k_lt zql1); (try k_lt2 zql2); (try k_sweep)) | (refine' Mine.call_fn (by k_asm) (by k_is) ?_; k_whole) | (refine' call_meth (by k_asm) (by k_mem) ?_; k_whole) | refine wpAny_call ?_); (first | (refine' code_defL (by exact rfl) (by exact rfl) (by first | exact rfl | assumption) (by k_asm) (by k_asm) (by k_asm) (by k_asm) (by k_asm) (by k_is) (by k_is) (by decide) (by ktr_room) (by first | exact BindsTo.of_eq rfl | exact binds_K (by k_in) rfl (by k_is) rfl rfl rfl) (by exact locs rfl) (by exact rfl) (by exact rfl) (by exact rfl) ?_; k_whole; intro zqg zqL zqh zqtk zqFG zqF zqN zqB zqX zqT zqe zqA; (try k_lift zqB); (try ((fail_if_success (fail_if_success k_fold)); (with_reducible refine Mine.wp_fold ?_); intro zqq zqe))) | (refine' code_defCL (by exact rfl) (by exact rfl) (by exact rfl) (by k_asm) (by k_asm) (by k_asm) (by k_asm) (by k_asm) (by k_is) (by k_is) (by ktr_room) (by first | exact BindsTo.of_eq rfl | exact binds_K (by k_in) rfl (by k_is) rfl rfl rfl) (by exact rfl) (by decide +kernel) (by exact rfl) (by exact rfl) (by exact rfl) ?_; k_whole; intro zqg zqL zqh zqtk zqcells zqFG zqF zqN zqY zqB zqX zqT zql1 zqe zqA; (try k_lt zql1); k_cells zqY; (try simp only [List.cons_append, List.nil_append] at zqN); (try dsimp only); (try k_lift zqB); (try ((fail_if_success (fail_if_success k_fold)); (with_reducible refine Mine.wp_fold ?_); intro zqq zqe)))))))) | walk1 | (dsimp only; walk1) | ((with_reducible show wpAny _ _ _ _ _ _); dsimp only) | (leave1; walk_say "STEP leave1"; (first | (with_reducible refine (?_ : wpAny _ _ _ _ _ _)) | try dsimp only))))
  all_goals (rename Fr _ _ _ _ => F9; rename News _ _ _ _ => N9)
  · refine' ret _ _ _ _ (tokF [_, _, _, _, _, _, _]) _ _ (by assumption) (by omega) (by omega) (by omega) (by omega) F9 (cb_drop N9 (List.forall_mem_cons.mpr ⟨.tail _ (.tail _ (.head _)), List.forall_mem_cons.mpr ⟨.tail _ (.tail _ (.tail _ (.head _))), fun q hq => .tail _ (.tail _ (.tail _ (.tail _ hq)))⟩⟩))
  · exact ret _ _ _ _ _ _ _ hz (by omega) (by omega) (by omega) (by omega) F9 N9
  )) only [↓Mine.wrap_i]

/-- move_gap(0) of a text whose gap begins there -/
theorem move_core {T2 : Nat → Tok} {t : Tok} {ge : Int} {g gp ce : Addr} {nce : Nat} {zs : List Value} {z0 : List Int} {own : List (Addr × Obj)}
    (B : Below A₀ base outer h₀) (F : Fr h₀ L s.heap m) (X : (Mine.fr.heap_1_1 w.params).In h₀)
    (N : News h₀ L s.heap ((ce, listOf zs.toArray nce) :: (gp, gapO w.params T2 ce 0 ge) :: own))
    (T : Top p loose mean mg mb h₀) (mg' : (g, instObj 224 gp) ∈ own) (hz : IntsAre zs z0) (hz8 : (z0.length : Int) = ge) (hge : ge ≤ 40)
    (o1 : ∀ p ∈ own, p.1 ≠ ce) (o2 : ∀ p ∈ own, p.1 ≠ gp) (hcg : @Ne Nat ce gp)
    (hd : dp + 2 < recursionLimit) (hu : un + 100 < cLine)
    (ret : ∀ h' tk' ws z1 T2' n', IntsAre ws z1 → (z1.length : Int) = ge → Fr h₀ L h' m →
      News h₀ L h' ((ce, listOf (List.toArray ws) n') :: (gp, gapO w.params T2' ce 0 ge) :: own) → Q .none { s with heap := h', toks := tk' }) :
    wpAny (model prog w) (ktrTop dp un gd cn ⟨.function, cnm, cg, cc, cm⟩ L a ccd cl outer) (call (.ref (179 : Nat)) [.ref g, .int 0 t]) Q E s := by
  refine Mine.unwrap ?_
  simp (disch := k_dflt (
  have _h : PySem.Challenge.rw_on0075_01 = PySem.Challenge.rw_on0075_01 ∧ Mine.fr.heap_1_1 = Mine.fr.heap_1_1 := by (k_fill; exact ⟨rfl, rfl⟩)
  clear _h
  w_top off
  repeat' ((first | ((fail_if_success (fail_if_success k_unfold)); (first | (with_reducible refine (?_ : wpAny _ _ _ _ _ _)) | (k_unfold; (try dsimp only)))) | ((fail_if_success (fail_if_success k_fold)); (first | (goal_has PySem.exec; (fail_if_success (fail_if_success (with_reducible show wpAny _ _ (exec _ _) _ _ _)))) | (goal_has PySem.Expr.BoolOp; (fail_if_success (fail_if_success (with_reducible show wpAny _ _ (eval (PySem.Expr.BoolOp _ _ _) _) _ _ _)))) | (goal_has PySem.Expr.Call; (fail_if_success (fail_if_success (with_reducible show wpAny _ _ (eval (PySem.Expr.Call _ _ _ _) _) _ _ _)))) | (goal_has PySem.Expr.Compare; (fail_if_success (fail_if_success (with_reducible show wpAny _ _ (eval (PySem.Expr.Compare _ _ _ _) _) _ _ _))))); (with_reducible refine Mine.wp_fold ?_); intro zqq zqe) | (goal_has PySem.Shared.mk; (with_reducible refine Mine.st_let ?_); intro zqs; goal_lacks PySem.Shared.mk) | ((ctx_mentions ite List.lookup); (rename Fr _ _ _ _ => zqF9); revert zqF9; (goal_has ite List.lookup); (with_reducible refine Mine.fr_let ?_); intro zqm; goal_lacks ite List.lookup; intro zqF) | ((ctx_mentions List.cons HAppend.hAppend List.append); (rename News _ _ _ _ => zqN9); (fail_if_success (fail_if_success (conv at zqN9 => arg 4; arg 2))); (with_reducible refine Mine.news_let zqN9 ?_); intro zql zqN; clear zqN9) | (k_end; wrow_close) | (goal_has binaryOp; ((fail_if_success (fail_if_success (with_reducible show wpAny _ _ (binaryOp Operator.Mult (Value.ref _) (Value.int _ _)) _ _ _))); k_dflt (refine' Mine.rep_list (by k_asm) (by k_asm) (by k_mem) (by first | decide | omega) (by first | decide | omega) ?_); intro zqD' zqh' zqws' zqzs' zqhzs' zqhzl' zqhzi' zqF' zqN' zql1; (try k_lt zql1); (try k_sweep))) | (goal_has subscriptTail; ((fail_if_success (fail_if_success (with_reducible show wpAny _ _ (subscriptTail _ (PySem.Expr.Slice _ _ none _) (Value.ref _) (Value.ref _)) _ _ _))); k_dflt (refine' Mine.cut_slice (by k_asm) (by k_asm) (by k_mem) (by exact IsPart.int _ _) (by exact IsPart.int _ _) (by first | decide | omega) (by first | decide | omega) (by assumption) (by first | assumption | exact rfl) (by omega) ?_ (by with_unfolding_all rfl) (by kmk_pure)); intro zqD' zqh' zqws' zqzs' zqhzs' zqhzl' zqhzi' zqF' zqN' zql1; (try k_lt zql1); (try k_sweep))) | (goal_has setItem; ((fail_if_success (fail_if_success (with_reducible show wpAny _ _ (setItem (Value.ref _) (Value.ref _) (Value.ref _)) _ _ _))); k_dflt (refine' Mine.set_slice_ints (by k_asm) (by k_asm) (by exact IsPart.int _ _) (by exact IsPart.int _ _) (by (intro zqo'; k_upd)) (by k_mem) (by first | decide | omega) (by first | decide | omega) (by k_ne) (by assumption) (by first | assumption | exact IntsAre.nil) (by first | assumption | exact rfl) (by first | assumption | exact rfl) (by omega) ?_); intro zqh' zqws' zqzs' zqn' zqhzs' zqhzl' zqhzi' zqF' zqN'; (try dsimp only at zqN'); (try k_sweep))) | (goal_has PySem.Value.builtin; ((fail_if_success (fail_if_success (with_reducible show wpAny _ _ (call (Value.builtin "len") [Value.ref _]) _ _ _))); k_dflt (refine' kst_len (by k_asm) (by k_mem) (by exact IntsAre.length (by assumption)) (by omega) ?_; k_whole))) | (goal_has call; (fail_if_success (fail_if_success (with_reducible show wpAny _ _ (call (Value.ref _) _ _) _ _ _))); first | (k_dflt (first | (refine' call_cls0 (by k_asm) (by k_asm) (by k_asm) (by k_is) (by k_is) ?_; k_whole; intro zqx zqd zqh zqF zqN zql1 zql2; (try ((have zqU := Mine.lts_up zql1 zql2); (dsimp +zetaDelta only [List.map] at zqU))); (try k_lt zql1); (try k_lt2 zql2); (try k_sweep)) | ((first | (refine' call_cls (by k_asm) (by k_asm) (by k_asm) (by k_is) (by k_is) (by k_is) ?_; k_whole; intro zqx zqd zqh zqF zqN zql1 zql2; (try ((have zqU := Mine.lts_up zql1 zql2); (dsimp +zetaDelta only [List.map] at zqU))); (try k_lt zql1); (try k_lt2 zql2); (try k_sweep)) | (refine' Mine.call_fn (by k_asm) (by k_is) ?_; k_whole) | (refine' call_meth (by k_asm) (by k_mem) ?_; k_whole) | refine wpAny_call ?_); (first | (refine' code_defL (by exact rfl) (by exact rfl) (by first | exact rfl | assumption) (by k_asm) (by k_asm) (by k_asm) (by k_asm) (by k_asm) (by k_is) (by k_is) (by decide) (by ktr_room) (by first | exact BindsTo.of_eq rfl | exact binds_K (by k_in) rfl (by k_is) rfl rfl rfl) (by exact locs rfl) (by exact rfl) (by exact rfl) (by exact rfl) ?_; k_whole; intro zqg zqL zqh zqtk zqFG zqF zqN zqB zqX zqT zqe zqA; (try k_lift zqB); (try ((fail_if_success (fail_if_success k_fold)); (with_reducible refine Mine.wp_fold ?_); intro zqq zqe))) | (refine' code_defCL (by exact rfl) (by exact rfl) (by exact rfl) (by k_asm) (by k_asm) (by k_asm) (by k_asm) (by k_asm) (by k_is) (by k_is) (by ktr_room) (by first | exact BindsTo.of_eq rfl | exact binds_K (by k_in) rfl (by k_is) rfl rfl rfl) (by exact rfl) (by decide +kernel) (by exact rfl) (by exact rfl) (by exact rfl) ?_; k_whole; intro zqg zqL zqh zqtk zqcells zqFG zqF zqN zqY zqB zqX zqT zql1 zqe zqA; (try k_lt zql1); k_cells zqY; (try simp only [List.cons_append, List.nil_append] at zqN); (try dsimp only); (try k_lift zqB); (try ((fail_if_success (fail_if_success k_fold)); (with_reducible refine Mine.wp_fold ?_); intro zqq zqe)))))))) | walk1 | (dsimp only; walk1) | ((with_reducible show wpAny _ _ _ _ _ _); dsimp only) | (leave1; walk_say "STEP leave1"; (first | (with_reducible refine (?_ : wpAny _ _ _ _ _ _)) | try dsimp only))))
  all_goals (rename Fr _ _ _ _ => F9; rename News _ _ _ _ => N9)
  rename _ = min (Int.toNat (ge + 0 - 0)) z0.length - ge.toNat => hl9
  rename List.length _ = _ + _ + _ => hl8
  rename IntsAre _ (_ : List Int) => hi9
  have h0 := hl9.trans (mv_zero hz8)
  dsimp +zetaDelta only at N9
  rw [h0] at N9 hl8
  simp only [Int.natCast_zero, Int.add_zero] at N9
  refine' ret _ _ _ _ (tokF [_, _, _, _, _, _, _]) _ hi9 ?el F9 (cb_drop N9 (List.forall_mem_cons.mpr ⟨.tail _ (.head _), List.forall_mem_cons.mpr ⟨.tail _ (.tail _ (.head _)), fun q hq => .tail _ (.tail _ (.tail _ hq))⟩⟩))
  case el => (rw [hl8, mv_zero hz8]; exact mv_len hz8)
  )) only [↓Mine.wrap_i]
end
section
variable {prog : Program} {w : World} {p : Program} {loose : List Str} {mean : ExcName → Option Value} {mg mb : Str → Option Value} {dp un : Nat} {gd : Option (List Code)} {cn : Str} {cnm : List (Str × NameKind)} {cg cc : Bool} {cm : List (Str × Const)} {a : Addr} {ccd : Value} {cl : List (Str × Addr)} {outer : List Env} {A₀ : Around} {base h₀ : Heap} {L : Addr} {m : Str → Option Value} {s : Shared} {Q E : Value → Shared → Prop}

/-- GapText.insert upon a fresh text -/
theorem gap_ins {T2 : Nat → Tok} {t : Tok} {x : Int} {g gp ce cd : Addr} {nce ncd : Nat} {zs vs : List Value} {z0 ns : List Int} {own : List (Addr × Obj)}
    (B : Below A₀ base outer h₀) (F : Fr h₀ L s.heap m) (X : (Mine.fr.heap_1_1 w.params).In h₀)
    (N : News h₀ L s.heap ((ce, listOf zs.toArray nce) :: (gp, gapO w.params T2 ce 0 8) :: own))
    (T : Top p loose mean mg mb h₀) (hx : x = 0)
    (mg' : (g, instObj 224 gp) ∈ own) (mcd : (cd, listOf vs.toArray ncd) ∈ own) (hi : IntsAre vs ns) (hlen : ns.length ≤ 20) (hz : IntsAre zs z0) (hz8 : z0.length = 8)
    (o1 : ∀ p ∈ own, p.1 ≠ ce) (o2 : ∀ p ∈ own, p.1 ≠ gp) (hcg : @Ne Nat ce gp)
    (hd : dp + 5 < recursionLimit) (hu : un + 200 < cLine)
    (ret : ∀ h' tk' ws zz pad T2' n' gs ge, zz = ns ++ pad → zz.length ≤ 100 → IntsAre ws zz → gs = (ns.length : Int) → ge = (zz.length : Int) → Fr h₀ L h' m →
      News h₀ L h' ((ce, listOf (List.toArray ws) n') :: (gp, gapO w.params T2' ce gs ge) :: own) → Q .none { s with heap := h', toks := tk' }) :
    wpAny (model prog w) (ktrTop dp un gd cn ⟨.function, cnm, cg, cc, cm⟩ L a ccd cl outer) (call (.ref (193 : Nat)) [.ref g, .int x t, .ref cd]) Q E s := by
  refine Mine.unwrap ?_
  simp (disch := k_dflt (
  have _h : PySem.Challenge.rw_on0075_01 = PySem.Challenge.rw_on0075_01 ∧ Mine.fr.heap_1_1 = Mine.fr.heap_1_1 := by (k_fill; exact ⟨rfl, rfl⟩)
  clear _h
  w_top off
  subst hx
  have hccd : @Ne Nat ce cd := fun e => o1 _ mcd e.symm
  refine wpAny_call ?_
  (first | (refine' code_defL (by exact rfl) (by exact rfl) (by first | exact rfl | assumption) (by k_asm) (by k_asm) (by k_asm) (by k_asm) (by k_asm) (by k_is) (by k_is) (by decide) (by ktr_room) (by first | exact BindsTo.of_eq rfl | exact binds_K (by k_in) rfl (by k_is) rfl rfl rfl) (by exact locs rfl) (by exact rfl) (by exact rfl) (by exact rfl) ?_; k_whole; intro zqg zqL zqh zqtk zqFG zqF zqN zqB zqX zqT zqe zqA; (try k_lift zqB); (try ((fail_if_success (fail_if_success k_fold)); (with_reducible refine Mine.wp_fold ?_); intro zqq zqe))) | (refine' code_defCL (by exact rfl) (by exact rfl) (by exact rfl) (by k_asm) (by k_asm) (by k_asm) (by k_asm) (by k_asm) (by k_is) (by k_is) (by ktr_room) (by first | exact BindsTo.of_eq rfl | exact binds_K (by k_in) rfl (by k_is) rfl rfl rfl) (by exact rfl) (by decide +kernel) (by exact rfl) (by exact rfl) (by exact rfl) ?_; k_whole; intro zqg zqL zqh zqtk zqcells zqFG zqF zqN zqY zqB zqX zqT zql1 zqe zqA; (try k_lt zql1); k_cells zqY; (try simp only [List.cons_append, List.nil_append] at zqN); (try dsimp only); (try k_lift zqB); (try ((fail_if_success (fail_if_success k_fold)); (with_reducible refine Mine.wp_fold ?_); intro zqq zqe))))
  repeat' ((first | ((fail_if_success (fail_if_success k_unfold)); (first | (with_reducible refine (?_ : wpAny _ _ _ _ _ _)) | (k_unfold; (try dsimp only)))) | ((fail_if_success (fail_if_success k_fold)); (first | (goal_has PySem.exec; (fail_if_success (fail_if_success (with_reducible show wpAny _ _ (exec _ _) _ _ _)))) | (goal_has PySem.Expr.BoolOp; (fail_if_success (fail_if_success (with_reducible show wpAny _ _ (eval (PySem.Expr.BoolOp _ _ _) _) _ _ _)))) | (goal_has PySem.Expr.Call; (fail_if_success (fail_if_success (with_reducible show wpAny _ _ (eval (PySem.Expr.Call _ _ _ _) _) _ _ _)))) | (goal_has PySem.Expr.Compare; (fail_if_success (fail_if_success (with_reducible show wpAny _ _ (eval (PySem.Expr.Compare _ _ _ _) _) _ _ _))))); (with_reducible refine Mine.wp_fold ?_); intro zqq zqe) | (goal_has PySem.Shared.mk; (with_reducible refine Mine.st_let ?_); intro zqs; goal_lacks PySem.Shared.mk) | ((ctx_mentions ite List.lookup); (rename Fr _ _ _ _ => zqF9); revert zqF9; (goal_has ite List.lookup); (with_reducible refine Mine.fr_let ?_); intro zqm; goal_lacks ite List.lookup; intro zqF) | ((ctx_mentions List.cons HAppend.hAppend List.append); (rename News _ _ _ _ => zqN9); (fail_if_success (fail_if_success (conv at zqN9 => arg 4; arg 2))); (with_reducible refine Mine.news_let zqN9 ?_); intro zql zqN; clear zqN9) | (k_end; wrow_close) | (goal_has setItem; ((fail_if_success (fail_if_success (with_reducible show wpAny _ _ (setItem (Value.ref _) (Value.ref _) (Value.ref _)) _ _ _))); k_dflt (refine' Mine.set_slice_ints (by k_asm) (by k_asm) (by exact IsPart.int _ _) (by exact IsPart.int _ _) (by (intro zqo'; k_upd)) (by k_mem) (by first | decide | omega) (by first | decide | omega) (by k_ne) (by assumption) (by first | assumption | exact IntsAre.nil) (by first | assumption | exact rfl) (by first | assumption | exact rfl) (by omega) ?_); intro zqh' zqws' zqzs' zqn' zqhzs' zqhzl' zqhzi' zqF' zqN'; (try dsimp only at zqN'); (try k_sweep))) | (goal_has PySem.Value.builtin; ((fail_if_success (fail_if_success (with_reducible show wpAny _ _ (call (Value.builtin "len") [Value.ref _]) _ _ _))); k_dflt (refine' kst_len (by k_asm) (by k_mem) (by exact IntsAre.length (by assumption)) (by omega) ?_; k_whole))) | (goal_has call; (fail_if_success (fail_if_success (with_reducible show wpAny _ _ (call (Value.ref _) _ _) _ _ _))); first | ((fail_if_success (fail_if_success (with_reducible show wpAny _ _ (call (Value.ref (179 : Nat)) [Value.ref _, Value.int 0 _]) _ _ _))); k_dflt (refine' Mine.move_core (by k_asm) (by k_asm) (by k_asm) (by k_asm) (by k_asm) (by k_mem) (by assumption) (by assumption) (by omega) (by assumption) (by assumption) (by assumption) (by ktr_room) (by ktr_units) ?_); intro zqh' zqtk' zqws' zqz1' zqT2' zqn' zqhzi' zqhzl' zqF' zqN'; (try k_sweep); (try dsimp only); (try ((fail_if_success (fail_if_success k_fold)); (with_reducible refine Mine.wp_fold ?_); intro zqq zqe))) | ((fail_if_success (fail_if_success (with_reducible show wpAny _ _ (call (Value.ref (186 : Nat)) [Value.ref _, Value.int _ _]) _ _ _))); k_dflt (refine' Mine.widen_core (by k_asm) (by k_asm) (by k_asm) (by k_asm) (by k_asm) (by k_mem) (by assumption) (by assumption) (by omega) (by omega) (by assumption) (by assumption) (by assumption) (by ktr_room) (by ktr_units) ?_); intro zqh' zqtk' zqws' zqz1' zqT2' zqn' zqge' zqhzi' zqhzl' zqhge1' zqhge2' zqhge3' zqF' zqN'; (try k_sweep); (try dsimp only); (try ((fail_if_success (fail_if_success k_fold)); (with_reducible refine Mine.wp_fold ?_); intro zqq zqe))) | (k_dflt (first | (refine' call_cls0 (by k_asm) (by k_asm) (by k_asm) (by k_is) (by k_is) ?_; k_whole; intro zqx zqd zqh zqF zqN zql1 zql2; (try ((have zqU := Mine.lts_up zql1 zql2); (dsimp +zetaDelta only [List.map] at zqU))); (try k_lt zql1); (try k_lt2 zql2); (try k_sweep)) | ((first | (refine' call_cls (by k_asm) (by k_asm) (by k_asm) (by k_is) (by k_is) (by k_is) ?_; k_whole; intro zqx zqd zqh zqF zqN zql1 zql2; (try ((have zqU := Mine.lts_up zql1 zql2); (dsimp +zetaDelta only [List.map] at zqU))); (try k_lt zql1); (try k_lt2 zql2); (try k_sweep)) | (refine' Mine.call_fn (by k_asm) (by k_is) ?_; k_whole) | (refine' call_meth (by k_asm) (by k_mem) ?_; k_whole) | refine wpAny_call ?_); (first | (refine' code_defL (by exact rfl) (by exact rfl) (by first | exact rfl | assumption) (by k_asm) (by k_asm) (by k_asm) (by k_asm) (by k_asm) (by k_is) (by k_is) (by decide) (by ktr_room) (by first | exact BindsTo.of_eq rfl | exact binds_K (by k_in) rfl (by k_is) rfl rfl rfl) (by exact locs rfl) (by exact rfl) (by exact rfl) (by exact rfl) ?_; k_whole; intro zqg zqL zqh zqtk zqFG zqF zqN zqB zqX zqT zqe zqA; (try k_lift zqB); (try ((fail_if_success (fail_if_success k_fold)); (with_reducible refine Mine.wp_fold ?_); intro zqq zqe))) | (refine' code_defCL (by exact rfl) (by exact rfl) (by exact rfl) (by k_asm) (by k_asm) (by k_asm) (by k_asm) (by k_asm) (by k_is) (by k_is) (by ktr_room) (by first | exact BindsTo.of_eq rfl | exact binds_K (by k_in) rfl (by k_is) rfl rfl rfl) (by exact rfl) (by decide +kernel) (by exact rfl) (by exact rfl) (by exact rfl) ?_; k_whole; intro zqg zqL zqh zqtk zqcells zqFG zqF zqN zqY zqB zqX zqT zql1 zqe zqA; (try k_lt zql1); k_cells zqY; (try simp only [List.cons_append, List.nil_append] at zqN); (try dsimp only); (try k_lift zqB); (try ((fail_if_success (fail_if_success k_fold)); (with_reducible refine Mine.wp_fold ?_); intro zqq zqe)))))))) | walk1 | (dsimp only; walk1) | ((with_reducible show wpAny _ _ _ _ _ _); dsimp only) | (leave1; walk_say "STEP leave1"; (first | (with_reducible refine (?_ : wpAny _ _ _ _ _ _)) | try dsimp only))))
  all_goals (rename List.length _ = _ + _ + _ => hl9; rw [gap_len (by omega)] at hl9)
  all_goals (refine' ret _ _ _ _ _ (tokF [_, _, _, _, _, _, _]) _ _ _ (spl_front ?a0 ?a1) ?eL ?e2 ?e3 ?e4 ?e5 ?e6; (case a0 => assumption); (case a1 => first | exact rfl | omega); (case e2 => assumption); (case e5 => k_asm); (case e6 => exact cb_drop (by assumption) (by kcj_all)); (case e3 => omega); (case e4 => omega); (case eL => omega))
  )) only [↓Mine.wrap_i]

theorem gap_ok {T2 : Nat → Tok} {t : Tok} {x : Int} {g gp ce cd : Addr} {nce ncd : Nat} {zs vs : List Value} {z0 ns : List Int} {news : List (Addr × Obj)} {news₁ : Obj → List (Addr × Obj)} {news₂ : Obj → Obj → List (Addr × Obj)}
    (B : Below A₀ base outer h₀) (F : Fr h₀ L s.heap m) (X : (Mine.fr.heap_1_1 w.params).In h₀) (N : News h₀ L s.heap news) (T : Top p loose mean mg mb h₀) (hx : x = 0)
    (mg' : (g, instObj 224 gp) ∈ news) (_hgp : (gp, gapO w.params T2 ce 0 8) ∈ news) (U1 : ∀ o', Upd ce (listOf zs.toArray nce) o' news (news₁ o')) (U2 : ∀ o₁ o', Upd gp (gapO w.params T2 ce 0 8) o' (news₁ o₁) (news₂ o₁ o'))
    (mcd : (cd, listOf vs.toArray ncd) ∈ news) (hi : IntsAre vs ns) (hlen : ns.length ≤ 20) (hz : IntsAre zs z0) (hz8 : z0.length = 8)
    (g1 : @Ne Nat g ce) (g2 : @Ne Nat g gp) (c1 : @Ne Nat cd ce) (c2 : @Ne Nat cd gp)
    (hd : dp + 5 < recursionLimit) (hu : un + 200 < cLine)
    (ret : ∀ h' tk' ws zz pad T2' n' gs ge, zz = ns ++ pad → zz.length ≤ 100 → IntsAre ws zz → gs = (ns.length : Int) → ge = (zz.length : Int) → Fr h₀ L h' m →
      News h₀ L h' (news₂ (listOf (List.toArray ws) n') (gapO w.params T2' ce gs ge)) → Q .none { s with heap := h', toks := tk' }) :
    wpAny (model prog w) (ktrTop dp un gd cn ⟨.function, cnm, cg, cc, cm⟩ L a ccd cl outer) (call (.ref (193 : Nat)) [.ref g, .int x t, .ref cd]) Q E s := by
  have hab := two_ne U1 U2 (.mk .none none .plain #[]) (fun e => by cases e)
  refine gap_ins (T2 := T2) (nce := nce) (ncd := ncd) (own := less2 ce gp news) B F X (two_in U1 U2 hab N) T hx (less2_in mg' g1 g2) (less2_in mcd c1 c2) hi hlen hz hz8 (fun p hp => (less2_mem.mp hp).2.1) (fun p hp => (less2_mem.mp hp).2.2) hab hd hu ?_
  intro h' tk' ws zz pad T2' n' gs ge e1 eL e2 e3 e4 F' N'
  exact ret h' tk' ws zz pad T2' n' gs ge e1 eL e2 e3 e4 F' (two_out U1 U2 N')
end
section
variable {prog : Program} {w : World} {p : Program} {loose : List Str} {mean : ExcName → Option Value} {mg mb : Str → Option Value} {dp un : Nat} {gd : Option (List Code)} {cn : Str} {cnm : List (Str × NameKind)} {cg cc : Bool} {cm : List (Str × Const)} {a : Addr} {ccd : Value} {cl : List (Str × Addr)} {outer : List Env} {A₀ : Around} {base h₀ : Heap} {L : Addr} {m : Str → Option Value} {s : Shared} {Q E : Value → Shared → Prop}

theorem ins_core {T1 T2 : Nat → Tok} {t : Tok} {nm : Str} {b bd g gp ce mk mkd rd li cd : Addr} {tr : Tok} {nce nli ncd : Nat} {zs : List Value} {vs : List Value} {ns z0 : List Int} {ro : Obj} {own : List (Addr × Obj)}
    (B : Below A₀ base outer h₀) (F : Fr h₀ L s.heap m) (X : (Mine.fr.heap_1_1 w.params).In h₀)
    (N : News h₀ L s.heap ((ce, listOf zs.toArray nce) :: (gp, gapO w.params T2 ce 0 8) :: (bd, bufO w.params T1 nm g mk li 1 1 1 1 1 1 false) :: own))
    (T : Top p loose mean mg mb h₀)
    (mb' : (b, instObj 435 bd) ∈ own) (mg' : (g, instObj 224 gp) ∈ own) (mk' : (mk, instObj 329 mkd) ∈ own) (mkd' : (mkd, dictOf [en w.params "rows" tr (.ref rd)] 1) ∈ own) (mrd' : (rd, ro) ∈ own) (hrd : (rd == sysModules) = false) (hro : Obj.IsDictOf (PySem.intKind prog w) ro [])
    (mli : (li, listOf #[] nli) ∈ own) (mcd : (cd, listOf vs.toArray ncd) ∈ own) (hi : IntsAre vs ns) (hlen : ns.length ≤ 20) (hz : IntsAre zs z0) (hz8 : z0.length = 8)
    (o1 : ∀ p ∈ own, p.1 ≠ ce) (o2 : ∀ p ∈ own, p.1 ≠ gp) (o3 : ∀ p ∈ own, p.1 ≠ bd) (hcg : @Ne Nat ce gp) (hcb : @Ne Nat ce bd) (hgb : @Ne Nat gp bd)
    (hd : dp + 10 < recursionLimit) (hu : un + 300 < cLine)
    (ret : ∀ h' tk' ws zz pad T1' T2' n' gs ge zv tk ck, zz = ns ++ pad → zz.length ≤ 100 → IntsAre ws zz → gs = (ns.length : Int) → ge = (zz.length : Int) → zv = 1 + (ns.length : Int) → 1 ≤ tk → Fr h₀ L h' m →
      News h₀ L h' ((ce, listOf (List.toArray ws) n') :: (gp, gapO w.params T2' ce gs ge) :: (bd, bufO w.params T1' nm g mk li 1 1 zv tk ck 1 false) :: own) → Q .none { s with heap := h', toks := tk' }) :
    wpAny (model prog w) (ktrTop dp un gd cn ⟨.function, cnm, cg, cc, cm⟩ L a ccd cl outer) (call (.ref (639 : Nat)) [.ref b, .int 1 t, .ref cd]) Q E s := by
  refine Mine.unwrap ?_
  simp (disch := k_dflt (
  have _h : PySem.Challenge.rw_on0075_01 = PySem.Challenge.rw_on0075_01 ∧ Mine.fr.heap_1_1 = Mine.fr.heap_1_1 := by (k_fill; exact ⟨rfl, rfl⟩)
  clear _h
  w_top off
  have e1 : @Ne Nat g ce := o1 _ mg'
  have e2 : @Ne Nat g gp := o2 _ mg'
  have e3 : @Ne Nat cd ce := o1 _ mcd
  have e4 : @Ne Nat cd gp := o2 _ mcd
  repeat' ((first | ((fail_if_success (fail_if_success k_unfold)); (first | (with_reducible refine (?_ : wpAny _ _ _ _ _ _)) | (k_unfold; (try dsimp only)))) | ((fail_if_success (fail_if_success k_fold)); (first | (goal_has PySem.exec; (fail_if_success (fail_if_success (with_reducible show wpAny _ _ (exec _ _) _ _ _)))) | (goal_has PySem.Expr.BoolOp; (fail_if_success (fail_if_success (with_reducible show wpAny _ _ (eval (PySem.Expr.BoolOp _ _ _) _) _ _ _)))) | (goal_has PySem.Expr.Call; (fail_if_success (fail_if_success (with_reducible show wpAny _ _ (eval (PySem.Expr.Call _ _ _ _) _) _ _ _)))) | (goal_has PySem.Expr.Compare; (fail_if_success (fail_if_success (with_reducible show wpAny _ _ (eval (PySem.Expr.Compare _ _ _ _) _) _ _ _))))); (with_reducible refine Mine.wp_fold ?_); intro zqq zqe) | (goal_has PySem.Shared.mk; (with_reducible refine Mine.st_let ?_); intro zqs; goal_lacks PySem.Shared.mk) | ((ctx_mentions ite List.lookup); (rename Fr _ _ _ _ => zqF9); revert zqF9; (goal_has ite List.lookup); (with_reducible refine Mine.fr_let ?_); intro zqm; goal_lacks ite List.lookup; intro zqF) | ((ctx_mentions List.cons HAppend.hAppend List.append); (rename News _ _ _ _ => zqN9); (fail_if_success (fail_if_success (conv at zqN9 => arg 4; arg 2))); (with_reducible refine Mine.news_let zqN9 ?_); intro zql zqN; clear zqN9) | (k_end; wrow_close) | (goal_has PySem.Value.builtin; first | ((fail_if_success (fail_if_success (with_reducible show wpAny _ _ (call (Value.builtin "sorted") [Value.ref _]) _ _ _))); k_dflt (refine' Mine.sorted_nil (by exact rfl) (by k_asm) (by k_asm) (by k_mem) (by k_asm) (by k_asm) ?_); intro zqD' zqn' zqh' zqtk' zqF' zqN' zql1; (try k_lt zql1); (try k_sweep)) | ((fail_if_success (fail_if_success (with_reducible show wpAny _ _ (call (Value.builtin "len") [Value.ref _]) _ _ _))); k_dflt (refine' kst_len (by k_asm) (by k_mem) (by exact IntsAre.length (by assumption)) (by omega) ?_; k_whole))) | (goal_has pyIter; ((fail_if_success (fail_if_success (with_reducible show wpAny _ _ (pyIter (Value.ref _)) (fun it s₂ => LoopAtV _ _ _ _ _ _ _ _ _ it s₂) _ _))); k_dflt (refine' Mine.iter_nil (by exact rfl) (by k_asm) (by k_asm) (by k_mem) ?_); intro zqh' zqtk' zqF' zqN'; (try k_sweep))) | (goal_has call; (fail_if_success (fail_if_success (with_reducible show wpAny _ _ (call (Value.ref _) _ _) _ _ _))); first | ((fail_if_success (fail_if_success (with_reducible show wpAny _ _ (call (Value.ref (193 : Nat)) [Value.ref _, Value.int _ _, Value.ref _]) _ _ _))); k_dflt (refine' Mine.gap_ok (by k_asm) (by k_asm) (by k_asm) (by k_asm) (by k_asm) (by omega) (by k_mem) (by k_mem) (by (intro zqo'; k_upd)) (by (intro zqo₁ zqo'; k_upd)) (by k_mem) (by assumption) (by assumption) (by assumption) (by assumption) (by k_ne) (by k_ne) (by k_ne) (by k_ne) (by ktr_room) (by ktr_units) ?_); intro zqh' zqtk' zqws' zqzz' zqpad' zqT2' zqn' zqgs' zqge' zqhzz' zqhzL' zqhzi' zqhgs' zqhge' zqF' zqN'; (try dsimp only at zqN'); (try k_sweep); (try dsimp only); (try ((fail_if_success (fail_if_success k_fold)); (with_reducible refine Mine.wp_fold ?_); intro zqq zqe))) | (k_dflt (first | (refine' call_cls0 (by k_asm) (by k_asm) (by k_asm) (by k_is) (by k_is) ?_; k_whole; intro zqx zqd zqh zqF zqN zql1 zql2; (try ((have zqU := Mine.lts_up zql1 zql2); (dsimp +zetaDelta only [List.map] at zqU))); (try k_lt zql1); (try k_lt2 zql2); (try k_sweep)) | ((first | (refine' call_cls (by k_asm) (by k_asm) (by k_asm) (by k_is) (by k_is) (by k_is) ?_; k_whole; intro zqx zqd zqh zqF zqN zql1 zql2; (try ((have zqU := Mine.lts_up zql1 zql2); (dsimp +zetaDelta only [List.map] at zqU))); (try k_lt zql1); (try k_lt2 zql2); (try k_sweep)) | (refine' Mine.call_fn (by k_asm) (by k_is) ?_; k_whole) | (refine' call_meth (by k_asm) (by k_mem) ?_; k_whole) | refine wpAny_call ?_); (first | (refine' code_defL (by exact rfl) (by exact rfl) (by first | exact rfl | assumption) (by k_asm) (by k_asm) (by k_asm) (by k_asm) (by k_asm) (by k_is) (by k_is) (by decide) (by ktr_room) (by first | exact BindsTo.of_eq rfl | exact binds_K (by k_in) rfl (by k_is) rfl rfl rfl) (by exact locs rfl) (by exact rfl) (by exact rfl) (by exact rfl) ?_; k_whole; intro zqg zqL zqh zqtk zqFG zqF zqN zqB zqX zqT zqe zqA; (try k_lift zqB); (try ((fail_if_success (fail_if_success k_fold)); (with_reducible refine Mine.wp_fold ?_); intro zqq zqe))) | (refine' code_defCL (by exact rfl) (by exact rfl) (by exact rfl) (by k_asm) (by k_asm) (by k_asm) (by k_asm) (by k_asm) (by k_is) (by k_is) (by ktr_room) (by first | exact BindsTo.of_eq rfl | exact binds_K (by k_in) rfl (by k_is) rfl rfl rfl) (by exact rfl) (by decide +kernel) (by exact rfl) (by exact rfl) (by exact rfl) ?_; k_whole; intro zqg zqL zqh zqtk zqcells zqFG zqF zqN zqY zqB zqX zqT zql1 zqe zqA; (try k_lt zql1); k_cells zqY; (try simp only [List.cons_append, List.nil_append] at zqN); (try dsimp only); (try k_lift zqB); (try ((fail_if_success (fail_if_success k_fold)); (with_reducible refine Mine.wp_fold ?_); intro zqq zqe)))))))) | walk1 | (dsimp only; walk1) | ((with_reducible show wpAny _ _ _ _ _ _); dsimp only) | (leave1; walk_say "STEP leave1"; (first | (with_reducible refine (?_ : wpAny _ _ _ _ _ _)) | try dsimp only))))
  all_goals first
    | (have hn0 : ns = [] := List.eq_nil_of_length_eq_zero (by omega)
       subst hn0
       exact ret _ _ zs z0 z0 T1 T2 nce 0 8 1 1 1 rfl (by omega) hz rfl (by rw [hz8]; rfl) rfl (by decide) (by k_asm) (by exact cb_drop (by assumption) (by kcj_all)))
    | (refine' ret _ _ _ _ _ (tokF [_, _, _, _, _, _, _, _, _, _, _, _, _, _, _, _, _, _, _, _, _, _, _, _, _, _, _, _]) _ _ _ _ _ _ _ ?a0 ?eL ?e2 ?e3 ?e4 ?e7 ?e8 ?e5 ?e6; (case a0 => assumption); (case eL => first | assumption | omega); (case e2 => assumption); (case e5 => k_asm); (case e6 => exact cb_drop (by assumption) (by kcj_all)); (case e3 => assumption); (case e4 => assumption); (case e7 => omega); (case e8 => omega))
  )) only [↓Mine.wrap_i]
end
section
variable {prog : Program} {w : World} {p : Program} {loose : List Str} {mean : ExcName → Option Value} {mg mb : Str → Option Value} {dp un : Nat} {gd : Option (List Code)} {cn : Str} {cnm : List (Str × NameKind)} {cg cc : Bool} {cm : List (Str × Const)} {a : Addr} {ccd : Value} {cl : List (Str × Addr)} {outer : List Env} {A₀ : Around} {base h₀ : Heap} {L : Addr} {m : Str → Option Value} {s : Shared} {Q E : Value → Shared → Prop}

/-- Buffer(1, name) -/
theorem buf_ok {nm : Str} {t1 t2 : Tok} {own : List (Addr × Obj)}
    (B : Below A₀ base outer h₀) (F : Fr h₀ L s.heap m) (X : (Mine.fr.heap_1_1 w.params).In h₀) (N : News h₀ L s.heap own) (T : Top p loose mean mg mb h₀)
    (hd : dp + 10 < recursionLimit) (hu : un + 300 < cLine)
    (ret : ∀ h' tk' b bd g gp ce mk mkd rd li tr nce nli ro zs z0 T1 T2, (∀ q ∈ own, q.1 < bd) → (∀ q ∈ own, q.1 < gp) → (∀ q ∈ own, q.1 < ce) → ((@LT.lt Nat _ bd b) ∧ (@LT.lt Nat _ b gp) ∧ (@LT.lt Nat _ gp g) ∧ (@LT.lt Nat _ g ce) ∧ (@LT.lt Nat _ ce mkd) ∧ (@LT.lt Nat _ mkd mk) ∧ (@LT.lt Nat _ mk rd) ∧ (@LT.lt Nat _ rd li)) →
      (rd == sysModules) = false → Obj.IsDictOf (PySem.intKind prog w) ro [] → IntsAre zs z0 → z0.length = 8 → Fr h₀ L h' m →
      News h₀ L h' ((ce, listOf (List.toArray zs) nce) :: (gp, gapO w.params T2 ce 0 8) :: (bd, bufO w.params T1 nm g mk li 1 1 1 1 1 1 false) :: (b, instObj 435 bd) :: (g, instObj 224 gp) :: (mk, instObj 329 mkd) :: (mkd, dictOf [en w.params "rows" tr (.ref rd)] 1) :: (rd, ro) :: (li, listOf #[] nli) :: own) → Q (.ref b) { s with heap := h', toks := tk' }) :
    wpAny (model prog w) (ktrTop dp un gd cn ⟨.function, cnm, cg, cc, cm⟩ L a ccd cl outer) (call (.ref (435 : Nat)) [.int 1 t1, .str nm t2]) Q E s := by
  refine Mine.unwrap ?_
  simp (disch := k_dflt (
  have _h : PySem.Challenge.rw_on0075_01 = PySem.Challenge.rw_on0075_01 ∧ Mine.fr.heap_1_1 = Mine.fr.heap_1_1 := by (k_fill; exact ⟨rfl, rfl⟩)
  clear _h
  w_top off
  repeat' ((fail_if_success (with_reducible show wpAny _ _ (execs (PySem.Stmt.Assign _ _ _ :: _) _) _ _ _)); (first | ((fail_if_success (fail_if_success k_unfold)); (first | (with_reducible refine (?_ : wpAny _ _ _ _ _ _)) | (k_unfold; (try dsimp only)))) | ((fail_if_success (fail_if_success k_fold)); (first | (goal_has PySem.exec; (fail_if_success (fail_if_success (with_reducible show wpAny _ _ (exec _ _) _ _ _)))) | (goal_has PySem.Expr.BoolOp; (fail_if_success (fail_if_success (with_reducible show wpAny _ _ (eval (PySem.Expr.BoolOp _ _ _) _) _ _ _)))) | (goal_has PySem.Expr.Call; (fail_if_success (fail_if_success (with_reducible show wpAny _ _ (eval (PySem.Expr.Call _ _ _ _) _) _ _ _)))) | (goal_has PySem.Expr.Compare; (fail_if_success (fail_if_success (with_reducible show wpAny _ _ (eval (PySem.Expr.Compare _ _ _ _) _) _ _ _))))); (with_reducible refine Mine.wp_fold ?_); intro zqq zqe) | (goal_has PySem.Shared.mk; (with_reducible refine Mine.st_let ?_); intro zqs; goal_lacks PySem.Shared.mk) | ((ctx_mentions ite List.lookup); (rename Fr _ _ _ _ => zqF9); revert zqF9; (goal_has ite List.lookup); (with_reducible refine Mine.fr_let ?_); intro zqm; goal_lacks ite List.lookup; intro zqF) | ((ctx_mentions List.cons HAppend.hAppend List.append); (rename News _ _ _ _ => zqN9); (fail_if_success (fail_if_success (conv at zqN9 => arg 4; arg 2))); (with_reducible refine Mine.news_let zqN9 ?_); intro zql zqN; clear zqN9) | (k_end; wrow_close) | (goal_has binaryOp; ((fail_if_success (fail_if_success (with_reducible show wpAny _ _ (binaryOp Operator.Mult (Value.ref _) (Value.int _ _)) _ _ _))); k_dflt (refine' Mine.rep_list (by k_asm) (by k_asm) (by k_mem) (by first | decide | omega) (by first | decide | omega) ?_); intro zqD' zqh' zqws' zqzs' zqhzs' zqhzl' zqhzi' zqF' zqN' zql1; (try k_lt zql1); (try k_sweep))) | (goal_has call; (fail_if_success (fail_if_success (with_reducible show wpAny _ _ (call (Value.ref _) _ _) _ _ _))); first | (k_dflt (first | (refine' call_cls0 (by k_asm) (by k_asm) (by k_asm) (by k_is) (by k_is) ?_; k_whole; intro zqx zqd zqh zqF zqN zql1 zql2; (try ((have zqU := Mine.lts_up zql1 zql2); (dsimp +zetaDelta only [List.map] at zqU))); (try k_lt zql1); (try k_lt2 zql2); (try k_sweep)) | ((first | (refine' call_cls (by k_asm) (by k_asm) (by k_asm) (by k_is) (by k_is) (by k_is) ?_; k_whole; intro zqx zqd zqh zqF zqN zql1 zql2; (try ((have zqU := Mine.lts_up zql1 zql2); (dsimp +zetaDelta only [List.map] at zqU))); (try k_lt zql1); (try k_lt2 zql2); (try k_sweep)) | (refine' Mine.call_fn (by k_asm) (by k_is) ?_; k_whole) | (refine' call_meth (by k_asm) (by k_mem) ?_; k_whole) | refine wpAny_call ?_); (first | (refine' code_defL (by exact rfl) (by exact rfl) (by first | exact rfl | assumption) (by k_asm) (by k_asm) (by k_asm) (by k_asm) (by k_asm) (by k_is) (by k_is) (by decide) (by ktr_room) (by first | exact BindsTo.of_eq rfl | exact binds_K (by k_in) rfl (by k_is) rfl rfl rfl) (by exact locs rfl) (by exact rfl) (by exact rfl) (by exact rfl) ?_; k_whole; intro zqg zqL zqh zqtk zqFG zqF zqN zqB zqX zqT zqe zqA; (try k_lift zqB); (try ((fail_if_success (fail_if_success k_fold)); (with_reducible refine Mine.wp_fold ?_); intro zqq zqe))) | (refine' code_defCL (by exact rfl) (by exact rfl) (by exact rfl) (by k_asm) (by k_asm) (by k_asm) (by k_asm) (by k_asm) (by k_is) (by k_is) (by ktr_room) (by first | exact BindsTo.of_eq rfl | exact binds_K (by k_in) rfl (by k_is) rfl rfl rfl) (by exact rfl) (by decide +kernel) (by exact rfl) (by exact rfl) (by exact rfl) ?_; k_whole; intro zqg zqL zqh zqtk zqcells zqFG zqF zqN zqY zqB zqX zqT zql1 zqe zqA; (try k_lt zql1); k_cells zqY; (try simp only [List.cons_append, List.nil_append] at zqN); (try dsimp only); (try k_lift zqB); (try ((fail_if_success (fail_if_success k_fold)); (with_reducible refine Mine.wp_fold ?_); intro zqq zqe)))))))) | walk1 | (dsimp only; walk1) | ((with_reducible show wpAny _ _ _ _ _ _); dsimp only) | (leave1; walk_say "STEP leave1"; (first | (with_reducible refine (?_ : wpAny _ _ _ _ _ _)) | try dsimp only))))
  (with_reducible refine Mine.st_let ?_); intro zqs; (refine' Mine.stores_run (news := fun o => (_, _) :: (_, o) :: _) (by exact (Mine.Stores.cons Mine.IsSrc.name (Mine.Stores.cons Mine.IsSrc.name Mine.Stores.nil))) (by k_asm) (by k_asm) (by k_asm) (by exact Top.nolimit (by k_asm)) (by exact rfl) (by exact rfl) (by exact rfl) (by exact rfl) (by exact fun _ => List.Mem.head _) (by (intro o o'; k_upd)) (by k_is) (by k_is) (by k_is) (by repeat' (first | exact True.intro | refine And.intro ?_ ?_ | k_is | exact rfl)) (by kernel_rfl) (by decide +kernel) (by exact Nat.le_of_ble_eq_true rfl) ?_; intro T' Ad' h' tk' F' N'; (try k_sweep))
  repeat' ((fail_if_success (with_reducible show wpAny _ _ (execs (PySem.Stmt.Assign [PySem.Expr.Attribute _ (Str.ofString "point") _] _ _ :: _) _) _ _ _)); (first | ((fail_if_success (fail_if_success k_unfold)); (first | (with_reducible refine (?_ : wpAny _ _ _ _ _ _)) | (k_unfold; (try dsimp only)))) | ((fail_if_success (fail_if_success k_fold)); (first | (goal_has PySem.exec; (fail_if_success (fail_if_success (with_reducible show wpAny _ _ (exec _ _) _ _ _)))) | (goal_has PySem.Expr.BoolOp; (fail_if_success (fail_if_success (with_reducible show wpAny _ _ (eval (PySem.Expr.BoolOp _ _ _) _) _ _ _)))) | (goal_has PySem.Expr.Call; (fail_if_success (fail_if_success (with_reducible show wpAny _ _ (eval (PySem.Expr.Call _ _ _ _) _) _ _ _)))) | (goal_has PySem.Expr.Compare; (fail_if_success (fail_if_success (with_reducible show wpAny _ _ (eval (PySem.Expr.Compare _ _ _ _) _) _ _ _))))); (with_reducible refine Mine.wp_fold ?_); intro zqq zqe) | (goal_has PySem.Shared.mk; (with_reducible refine Mine.st_let ?_); intro zqs; goal_lacks PySem.Shared.mk) | ((ctx_mentions ite List.lookup); (rename Fr _ _ _ _ => zqF9); revert zqF9; (goal_has ite List.lookup); (with_reducible refine Mine.fr_let ?_); intro zqm; goal_lacks ite List.lookup; intro zqF) | ((ctx_mentions List.cons HAppend.hAppend List.append); (rename News _ _ _ _ => zqN9); (fail_if_success (fail_if_success (conv at zqN9 => arg 4; arg 2))); (with_reducible refine Mine.news_let zqN9 ?_); intro zql zqN; clear zqN9) | (k_end; wrow_close) | (goal_has binaryOp; ((fail_if_success (fail_if_success (with_reducible show wpAny _ _ (binaryOp Operator.Mult (Value.ref _) (Value.int _ _)) _ _ _))); k_dflt (refine' Mine.rep_list (by k_asm) (by k_asm) (by k_mem) (by first | decide | omega) (by first | decide | omega) ?_); intro zqD' zqh' zqws' zqzs' zqhzs' zqhzl' zqhzi' zqF' zqN' zql1; (try k_lt zql1); (try k_sweep))) | (goal_has call; (fail_if_success (fail_if_success (with_reducible show wpAny _ _ (call (Value.ref _) _ _) _ _ _))); first | (k_dflt (first | (refine' call_cls0 (by k_asm) (by k_asm) (by k_asm) (by k_is) (by k_is) ?_; k_whole; intro zqx zqd zqh zqF zqN zql1 zql2; (try ((have zqU := Mine.lts_up zql1 zql2); (dsimp +zetaDelta only [List.map] at zqU))); (try k_lt zql1); (try k_lt2 zql2); (try k_sweep)) | ((first | (refine' call_cls (by k_asm) (by k_asm) (by k_asm) (by k_is) (by k_is) (by k_is) ?_; k_whole; intro zqx zqd zqh zqF zqN zql1 zql2; (try ((have zqU := Mine.lts_up zql1 zql2); (dsimp +zetaDelta only [List.map] at zqU))); (try k_lt zql1); (try k_lt2 zql2); (try k_sweep)) | (refine' Mine.call_fn (by k_asm) (by k_is) ?_; k_whole) | (refine' call_meth (by k_asm) (by k_mem) ?_; k_whole) | refine wpAny_call ?_); (first | (refine' code_defL (by exact rfl) (by exact rfl) (by first | exact rfl | assumption) (by k_asm) (by k_asm) (by k_asm) (by k_asm) (by k_asm) (by k_is) (by k_is) (by decide) (by ktr_room) (by first | exact BindsTo.of_eq rfl | exact binds_K (by k_in) rfl (by k_is) rfl rfl rfl) (by exact locs rfl) (by exact rfl) (by exact rfl) (by exact rfl) ?_; k_whole; intro zqg zqL zqh zqtk zqFG zqF zqN zqB zqX zqT zqe zqA; (try k_lift zqB); (try ((fail_if_success (fail_if_success k_fold)); (with_reducible refine Mine.wp_fold ?_); intro zqq zqe))) | (refine' code_defCL (by exact rfl) (by exact rfl) (by exact rfl) (by k_asm) (by k_asm) (by k_asm) (by k_asm) (by k_asm) (by k_is) (by k_is) (by ktr_room) (by first | exact BindsTo.of_eq rfl | exact binds_K (by k_in) rfl (by k_is) rfl rfl rfl) (by exact rfl) (by decide +kernel) (by exact rfl) (by exact rfl) (by exact rfl) ?_; k_whole; intro zqg zqL zqh zqtk zqcells zqFG zqF zqN zqY zqB zqX zqT zql1 zqe zqA; (try k_lt zql1); k_cells zqY; (try simp only [List.cons_append, List.nil_append] at zqN); (try dsimp only); (try k_lift zqB); (try ((fail_if_success (fail_if_success k_fold)); (with_reducible refine Mine.wp_fold ?_); intro zqq zqe)))))))) | walk1 | (dsimp only; walk1) | ((with_reducible show wpAny _ _ _ _ _ _); dsimp only) | (leave1; walk_say "STEP leave1"; (first | (with_reducible refine (?_ : wpAny _ _ _ _ _ _)) | try dsimp only))))
  (with_reducible refine Mine.st_let ?_); intro zqs; (refine' Mine.stores_run (news := fun o => _ :: _ :: _ :: _ :: _ :: _ :: _ :: _ :: _ :: _ :: (_, _) :: (_, o) :: _) (by exact (Mine.Stores.cons Mine.IsSrc.int (Mine.Stores.cons Mine.IsSrc.int (Mine.Stores.cons Mine.IsSrc.int (Mine.Stores.cons Mine.IsSrc.none (Mine.Stores.cons Mine.IsSrc.bool (Mine.Stores.cons Mine.IsSrc.bool (Mine.Stores.cons Mine.IsSrc.int (Mine.Stores.cons Mine.IsSrc.int (Mine.Stores.cons Mine.IsSrc.int Mine.Stores.nil)))))))))) (by k_asm) (by k_asm) (by k_asm) (by exact Top.nolimit (by k_asm)) (by exact rfl) (by exact rfl) (by exact rfl) (by exact rfl) (by exact fun _ => List.Mem.tail _ (List.Mem.tail _ (List.Mem.tail _ (List.Mem.tail _ (List.Mem.tail _ (List.Mem.tail _ (List.Mem.tail _ (List.Mem.tail _ (List.Mem.tail _ (List.Mem.tail _ (List.Mem.head _))))))))))) (by (intro o o'; k_upd)) (by k_is) (by k_is) (by k_is) (by repeat' (first | exact True.intro | refine And.intro ?_ ?_ | k_is | exact rfl)) (by kernel_rfl) (by decide +kernel) (by exact Nat.le_of_ble_eq_true rfl) ?_; intro T' Ad' h' tk' F' N'; (try k_sweep))
  repeat' ((fail_if_success (with_reducible show wpAny _ _ (execs (PySem.Stmt.Assign [PySem.Expr.Attribute _ (Str.ofString "undo") _] _ _ :: _) _) _ _ _)); (first | ((fail_if_success (fail_if_success k_unfold)); (first | (with_reducible refine (?_ : wpAny _ _ _ _ _ _)) | (k_unfold; (try dsimp only)))) | ((fail_if_success (fail_if_success k_fold)); (first | (goal_has PySem.exec; (fail_if_success (fail_if_success (with_reducible show wpAny _ _ (exec _ _) _ _ _)))) | (goal_has PySem.Expr.BoolOp; (fail_if_success (fail_if_success (with_reducible show wpAny _ _ (eval (PySem.Expr.BoolOp _ _ _) _) _ _ _)))) | (goal_has PySem.Expr.Call; (fail_if_success (fail_if_success (with_reducible show wpAny _ _ (eval (PySem.Expr.Call _ _ _ _) _) _ _ _)))) | (goal_has PySem.Expr.Compare; (fail_if_success (fail_if_success (with_reducible show wpAny _ _ (eval (PySem.Expr.Compare _ _ _ _) _) _ _ _))))); (with_reducible refine Mine.wp_fold ?_); intro zqq zqe) | (goal_has PySem.Shared.mk; (with_reducible refine Mine.st_let ?_); intro zqs; goal_lacks PySem.Shared.mk) | ((ctx_mentions ite List.lookup); (rename Fr _ _ _ _ => zqF9); revert zqF9; (goal_has ite List.lookup); (with_reducible refine Mine.fr_let ?_); intro zqm; goal_lacks ite List.lookup; intro zqF) | ((ctx_mentions List.cons HAppend.hAppend List.append); (rename News _ _ _ _ => zqN9); (fail_if_success (fail_if_success (conv at zqN9 => arg 4; arg 2))); (with_reducible refine Mine.news_let zqN9 ?_); intro zql zqN; clear zqN9) | (k_end; wrow_close) | (goal_has binaryOp; ((fail_if_success (fail_if_success (with_reducible show wpAny _ _ (binaryOp Operator.Mult (Value.ref _) (Value.int _ _)) _ _ _))); k_dflt (refine' Mine.rep_list (by k_asm) (by k_asm) (by k_mem) (by first | decide | omega) (by first | decide | omega) ?_); intro zqD' zqh' zqws' zqzs' zqhzs' zqhzl' zqhzi' zqF' zqN' zql1; (try k_lt zql1); (try k_sweep))) | (goal_has call; (fail_if_success (fail_if_success (with_reducible show wpAny _ _ (call (Value.ref _) _ _) _ _ _))); first | (k_dflt (first | (refine' call_cls0 (by k_asm) (by k_asm) (by k_asm) (by k_is) (by k_is) ?_; k_whole; intro zqx zqd zqh zqF zqN zql1 zql2; (try ((have zqU := Mine.lts_up zql1 zql2); (dsimp +zetaDelta only [List.map] at zqU))); (try k_lt zql1); (try k_lt2 zql2); (try k_sweep)) | ((first | (refine' call_cls (by k_asm) (by k_asm) (by k_asm) (by k_is) (by k_is) (by k_is) ?_; k_whole; intro zqx zqd zqh zqF zqN zql1 zql2; (try ((have zqU := Mine.lts_up zql1 zql2); (dsimp +zetaDelta only [List.map] at zqU))); (try k_lt zql1); (try k_lt2 zql2); (try k_sweep)) | (refine' Mine.call_fn (by k_asm) (by k_is) ?_; k_whole) | (refine' call_meth (by k_asm) (by k_mem) ?_; k_whole) | refine wpAny_call ?_); (first | (refine' code_defL (by exact rfl) (by exact rfl) (by first | exact rfl | assumption) (by k_asm) (by k_asm) (by k_asm) (by k_asm) (by k_asm) (by k_is) (by k_is) (by decide) (by ktr_room) (by first | exact BindsTo.of_eq rfl | exact binds_K (by k_in) rfl (by k_is) rfl rfl rfl) (by exact locs rfl) (by exact rfl) (by exact rfl) (by exact rfl) ?_; k_whole; intro zqg zqL zqh zqtk zqFG zqF zqN zqB zqX zqT zqe zqA; (try k_lift zqB); (try ((fail_if_success (fail_if_success k_fold)); (with_reducible refine Mine.wp_fold ?_); intro zqq zqe))) | (refine' code_defCL (by exact rfl) (by exact rfl) (by exact rfl) (by k_asm) (by k_asm) (by k_asm) (by k_asm) (by k_asm) (by k_is) (by k_is) (by ktr_room) (by first | exact BindsTo.of_eq rfl | exact binds_K (by k_in) rfl (by k_is) rfl rfl rfl) (by exact rfl) (by decide +kernel) (by exact rfl) (by exact rfl) (by exact rfl) ?_; k_whole; intro zqg zqL zqh zqtk zqcells zqFG zqF zqN zqY zqB zqX zqT zql1 zqe zqA; (try k_lt zql1); k_cells zqY; (try simp only [List.cons_append, List.nil_append] at zqN); (try dsimp only); (try k_lift zqB); (try ((fail_if_success (fail_if_success k_fold)); (with_reducible refine Mine.wp_fold ?_); intro zqq zqe)))))))) | walk1 | (dsimp only; walk1) | ((with_reducible show wpAny _ _ _ _ _ _); dsimp only) | (leave1; walk_say "STEP leave1"; (first | (with_reducible refine (?_ : wpAny _ _ _ _ _ _)) | try dsimp only))))
  (with_reducible refine Mine.st_let ?_); intro zqs; (refine' Mine.stores_run (news := fun o => _ :: _ :: _ :: _ :: _ :: _ :: _ :: _ :: _ :: _ :: _ :: (_, _) :: (_, o) :: _) (by exact (Mine.Stores.cons Mine.IsSrc.none (Mine.Stores.cons Mine.IsSrc.none (Mine.Stores.cons Mine.IsSrc.none (Mine.Stores.cons Mine.IsSrc.none (Mine.Stores.cons Mine.IsSrc.none (Mine.Stores.cons Mine.IsSrc.none Mine.Stores.nil))))))) (by k_asm) (by k_asm) (by k_asm) (by exact Top.nolimit (by k_asm)) (by exact rfl) (by exact rfl) (by exact rfl) (by exact rfl) (by exact fun _ => List.Mem.tail _ (List.Mem.tail _ (List.Mem.tail _ (List.Mem.tail _ (List.Mem.tail _ (List.Mem.tail _ (List.Mem.tail _ (List.Mem.tail _ (List.Mem.tail _ (List.Mem.tail _ (List.Mem.tail _ (List.Mem.head _)))))))))))) (by (intro o o'; k_upd)) (by k_is) (by k_is) (by k_is) (by repeat' (first | exact True.intro | refine And.intro ?_ ?_ | k_is | exact rfl)) (by kernel_rfl) (by decide +kernel) (by exact Nat.le_of_ble_eq_true rfl) ?_; intro T' Ad' h' tk' F' N'; (try k_sweep))
  repeat' ((first | ((fail_if_success (fail_if_success k_unfold)); (first | (with_reducible refine (?_ : wpAny _ _ _ _ _ _)) | (k_unfold; (try dsimp only)))) | ((fail_if_success (fail_if_success k_fold)); (first | (goal_has PySem.exec; (fail_if_success (fail_if_success (with_reducible show wpAny _ _ (exec _ _) _ _ _)))) | (goal_has PySem.Expr.BoolOp; (fail_if_success (fail_if_success (with_reducible show wpAny _ _ (eval (PySem.Expr.BoolOp _ _ _) _) _ _ _)))) | (goal_has PySem.Expr.Call; (fail_if_success (fail_if_success (with_reducible show wpAny _ _ (eval (PySem.Expr.Call _ _ _ _) _) _ _ _)))) | (goal_has PySem.Expr.Compare; (fail_if_success (fail_if_success (with_reducible show wpAny _ _ (eval (PySem.Expr.Compare _ _ _ _) _) _ _ _))))); (with_reducible refine Mine.wp_fold ?_); intro zqq zqe) | (goal_has PySem.Shared.mk; (with_reducible refine Mine.st_let ?_); intro zqs; goal_lacks PySem.Shared.mk) | ((ctx_mentions ite List.lookup); (rename Fr _ _ _ _ => zqF9); revert zqF9; (goal_has ite List.lookup); (with_reducible refine Mine.fr_let ?_); intro zqm; goal_lacks ite List.lookup; intro zqF) | ((ctx_mentions List.cons HAppend.hAppend List.append); (rename News _ _ _ _ => zqN9); (fail_if_success (fail_if_success (conv at zqN9 => arg 4; arg 2))); (with_reducible refine Mine.news_let zqN9 ?_); intro zql zqN; clear zqN9) | (k_end; wrow_close) | (goal_has binaryOp; ((fail_if_success (fail_if_success (with_reducible show wpAny _ _ (binaryOp Operator.Mult (Value.ref _) (Value.int _ _)) _ _ _))); k_dflt (refine' Mine.rep_list (by k_asm) (by k_asm) (by k_mem) (by first | decide | omega) (by first | decide | omega) ?_); intro zqD' zqh' zqws' zqzs' zqhzs' zqhzl' zqhzi' zqF' zqN' zql1; (try k_lt zql1); (try k_sweep))) | (goal_has call; (fail_if_success (fail_if_success (with_reducible show wpAny _ _ (call (Value.ref _) _ _) _ _ _))); first | (k_dflt (first | (refine' call_cls0 (by k_asm) (by k_asm) (by k_asm) (by k_is) (by k_is) ?_; k_whole; intro zqx zqd zqh zqF zqN zql1 zql2; (try ((have zqU := Mine.lts_up zql1 zql2); (dsimp +zetaDelta only [List.map] at zqU))); (try k_lt zql1); (try k_lt2 zql2); (try k_sweep)) | ((first | (refine' call_cls (by k_asm) (by k_asm) (by k_asm) (by k_is) (by k_is) (by k_is) ?_; k_whole; intro zqx zqd zqh zqF zqN zql1 zql2; (try ((have zqU := Mine.lts_up zql1 zql2); (dsimp +zetaDelta only [List.map] at zqU))); (try k_lt zql1); (try k_lt2 zql2); (try k_sweep)) | (refine' Mine.call_fn (by k_asm) (by k_is) ?_; k_whole) | (refine' call_meth (by k_asm) (by k_mem) ?_; k_whole) | refine wpAny_call ?_); (first | (refine' code_defL (by exact rfl) (by exact rfl) (by first | exact rfl | assumption) (by k_asm) (by k_asm) (by k_asm) (by k_asm) (by k_asm) (by k_is) (by k_is) (by decide) (by ktr_room) (by first | exact BindsTo.of_eq rfl | exact binds_K (by k_in) rfl (by k_is) rfl rfl rfl) (by exact locs rfl) (by exact rfl) (by exact rfl) (by exact rfl) ?_; k_whole; intro zqg zqL zqh zqtk zqFG zqF zqN zqB zqX zqT zqe zqA; (try k_lift zqB); (try ((fail_if_success (fail_if_success k_fold)); (with_reducible refine Mine.wp_fold ?_); intro zqq zqe))) | (refine' code_defCL (by exact rfl) (by exact rfl) (by exact rfl) (by k_asm) (by k_asm) (by k_asm) (by k_asm) (by k_asm) (by k_is) (by k_is) (by ktr_room) (by first | exact BindsTo.of_eq rfl | exact binds_K (by k_in) rfl (by k_is) rfl rfl rfl) (by exact rfl) (by decide +kernel) (by exact rfl) (by exact rfl) (by exact rfl) ?_; k_whole; intro zqg zqL zqh zqtk zqcells zqFG zqF zqN zqY zqB zqX zqT zql1 zqe zqA; (try k_lt zql1); k_cells zqY; (try simp only [List.cons_append, List.nil_append] at zqN); (try dsimp only); (try k_lift zqB); (try ((fail_if_success (fail_if_success k_fold)); (with_reducible refine Mine.wp_fold ?_); intro zqq zqe)))))))) | walk1 | (dsimp only; walk1) | ((with_reducible show wpAny _ _ _ _ _ _); dsimp only) | (leave1; walk_say "STEP leave1"; (first | (with_reducible refine (?_ : wpAny _ _ _ _ _ _)) | try dsimp only))))
  all_goals (refine' ret _ _ _ _ _ _ _ _ _ _ _ _ _ _ _ _ _ (tokF [_, _, _, _, _, _, _, _, _, _, _, _, _, _, _, _, _, _, _, _, _, _, _, _, _, _, _, _]) (tokF [_, _, _, _, _, _, _]) ?e1 ?e9 ?e10 ?e2 ?e3 ?e4 ?e5 ?e6 ?e7 ?e8; (case e7 => k_asm); (case e8 => refine' cb_drop (by assumption) (List.forall_mem_cons.mpr ⟨?m1, List.forall_mem_cons.mpr ⟨?m2, List.forall_mem_cons.mpr ⟨?m3, List.forall_mem_cons.mpr ⟨?m4, List.forall_mem_cons.mpr ⟨?m5, List.forall_mem_cons.mpr ⟨?m6, List.forall_mem_cons.mpr ⟨?m7, List.forall_mem_cons.mpr ⟨?m8, List.forall_mem_cons.mpr ⟨?m9, ?m10⟩⟩⟩⟩⟩⟩⟩⟩⟩); (case m4 => k_mem); (case m3 => k_mem); (case m5 => k_mem); (case m2 => k_mem); (case m1 => k_mem); (case m6 => k_mem); (case m7 => k_mem); (case m8 => k_mem); (case m9 => k_mem); (case m10 => kcj_all)); (case e1 => first | assumption | exact fun q hq => kst_ltOf (by assumption) q hq); (case e9 => exact fun q hq => Nat.lt_trans ((by first | assumption | exact fun q hq => kst_ltOf (by assumption) q hq : ∀ q ∈ own, q.1 < _) q hq) (by omega)); (case e10 => exact fun q hq => Nat.lt_trans ((by first | assumption | exact fun q hq => kst_ltOf (by assumption) q hq : ∀ q ∈ own, q.1 < _) q hq) (by omega)); (case e2 => (refine ⟨?_, ?_, ?_, ?_, ?_, ?_, ?_, ?_⟩ <;> omega)); (case e3 => assumption); (case e4 => assumption); (case e5 => assumption); (case e6 => ((simp only [List.nil_append]); omega)))
  )) only [↓Mine.wrap_i]
end
theorem code_menu {r : Int} (h0 : 0 ≤ r) (h5 : r < 5) : codeOk ([97, 98, 10, 9, 1].getD r.toNat 0) := by
  have h : r.toNat < 5 := by omega
  generalize r.toNat = k at h
  unfold codeOk
  match k, h with
  | 0, _ => decide
  | 1, _ => decide
  | 2, _ => decide
  | 3, _ => decide
  | 4, _ => decide
section
variable {prog : Program} {w : World} {A : Around} {E : Value → Shared → Prop} {s : Shared} {h₀ : Heap} {L : Addr} {m : Str → Option Value} {news : List (Addr × Obj)}
theorem pick_two {l : Addr} {x y : Str} {tx ty : Tok} {c : Nat} {value slice : PySem.Expr} {k : Int} {u : Tok} {Q : Value → Shared → Prop} (N : News h₀ L s.heap news) (hm : (l, listOf #[Value.str x tx, Value.str y ty] c) ∈ news) (h0 : 0 ≤ k) (h1 : k < 2)
    (h : ∀ z t, (z = x ∨ z = y) → Q (.str z t) s)
    (hs : subscripted slice false (.ref l) (.int k u) = operate [.ref l, .int k u] (getItem (.ref l) (.int k u)) := by with_unfolding_all rfl) (hg : ∀ r, letTemporaryGo value (.ref l) r = pure () := by intro _; with_unfolding_all rfl) :
    wpAny (model prog w) A (subscriptTail value slice (.ref l) (.int k u)) Q E s := by
  have hl := PySem.IsL.isList (n := c) (N _ hm).1
  by_cases h2 : k = 0
  · subst h2
    exact item_list hl (by decide) (by decide) rfl (h x tx (.inl rfl)) hs hg
  · have h3 : k = 1 := by omega
    subst h3
    exact item_list hl (by decide) (by decide) rfl (h y ty (.inr rfl)) hs hg
end
/-- a ledger apart from one of its objects -/
def less1 (b : Addr) (news : List (Addr × Obj)) : List (Addr × Obj) := news.filter fun p => p.1 != b
theorem less1_mem {b : Addr} {news : List (Addr × Obj)} {p : Addr × Obj} : p ∈ less1 b news ↔ p ∈ news ∧ p.1 ≠ b := by
  unfold less1
  rw [List.mem_filter, bne_iff_ne]
section
variable {h₀ h h' : Heap} {L b : Addr} {ob ob' : Obj} {news : List (Addr × Obj)} {news₁ : Obj → List (Addr × Obj)}
theorem less1_of {b x : Addr} {o : Obj} {news : List (Addr × Obj)} (h : (x, o) ∈ news) (hne : @Ne Nat x b) : (x, o) ∈ less1 b news := less1_mem.mpr ⟨h, hne⟩
theorem one_in (U : ∀ o', Upd b ob o' news (news₁ o')) (N : News h₀ L h news) : News h₀ L h ((b, ob) :: less1 b news) := by
  intro p hp
  rcases List.mem_cons.mp hp with rfl | hp
  · exact N _ (upd_old (U ob))
  · exact N _ (less1_mem.mp hp).1
theorem one_out (U : ∀ o', Upd b ob o' news (news₁ o')) (N : News h₀ L h' ((b, ob') :: less1 b news)) : News h₀ L h' (news₁ ob') := by
  intro p hp
  rcases upd_mem (U ob') p hp with e | ⟨e, eb⟩
  · rw [e]; exact N _ (.head _)
  · exact N _ (.tail _ (less1_mem.mpr ⟨e, eb⟩))
end
section
variable {prog : Program} {w : World} {p : Program} {loose : List Str} {mean : ExcName → Option Value} {mg mb : Str → Option Value} {dp un : Nat} {gd : Option (List Code)} {cn : Str} {cnm : List (Str × NameKind)} {cg cc : Bool} {cm : List (Str × Const)} {a : Addr} {ccd : Value} {cl : List (Str × Addr)} {outer : List Env} {A₀ : Around} {base h₀ : Heap} {L : Addr} {m : Str → Option Value} {s : Shared} {Q E : Value → Shared → Prop}

/-- set_modified(False) -/
theorem mod_core {b bd g mk li : Addr} {T1 : Nat → Tok} {nm : Str} {pt bv zv tk1 ck sv : Int} {ro : Bool} {own : List (Addr × Obj)}
    (B : Below A₀ base outer h₀) (F : Fr h₀ L s.heap m) (X : (Mine.fr.heap_1_1 w.params).In h₀) (N : News h₀ L s.heap ((bd, bufO w.params T1 nm g mk li pt bv zv tk1 ck sv ro) :: own)) (TT : Top p loose mean mg mb h₀)
    (mb' : (b, instObj 435 bd) ∈ own) (ho : ∀ p ∈ own, p.1 ≠ bd)
    (hd : dp + 5 < recursionLimit) (hu : un + 200 < cLine)
    (ret : ∀ h' tk' T1' sv', Fr h₀ L h' m → News h₀ L h' ((bd, bufO w.params T1' nm g mk li pt bv zv tk1 ck sv' ro) :: own) → Q .none { s with heap := h', toks := tk' }) :
    wpAny (model prog w) (ktrTop dp un gd cn ⟨.function, cnm, cg, cc, cm⟩ L a ccd cl outer) (call (.ref (425 : Nat)) [.ref b, .bool false]) Q E s := by
  refine Mine.unwrap ?_
  simp (disch := k_dflt (
  have _h : PySem.Challenge.rw_on0075_01 = PySem.Challenge.rw_on0075_01 ∧ Mine.fr.heap_1_1 = Mine.fr.heap_1_1 := by (k_fill; exact ⟨rfl, rfl⟩)
  clear _h
  w_top off
  repeat' ((first | ((fail_if_success (fail_if_success k_unfold)); (first | (with_reducible refine (?_ : wpAny _ _ _ _ _ _)) | (k_unfold; (try dsimp only)))) | ((fail_if_success (fail_if_success k_fold)); (first | (goal_has PySem.exec; (fail_if_success (fail_if_success (with_reducible show wpAny _ _ (exec _ _) _ _ _)))) | (goal_has PySem.Expr.BoolOp; (fail_if_success (fail_if_success (with_reducible show wpAny _ _ (eval (PySem.Expr.BoolOp _ _ _) _) _ _ _)))) | (goal_has PySem.Expr.Call; (fail_if_success (fail_if_success (with_reducible show wpAny _ _ (eval (PySem.Expr.Call _ _ _ _) _) _ _ _)))) | (goal_has PySem.Expr.Compare; (fail_if_success (fail_if_success (with_reducible show wpAny _ _ (eval (PySem.Expr.Compare _ _ _ _) _) _ _ _))))); (with_reducible refine Mine.wp_fold ?_); intro zqq zqe) | (goal_has PySem.Shared.mk; (with_reducible refine Mine.st_let ?_); intro zqs; goal_lacks PySem.Shared.mk) | ((ctx_mentions ite List.lookup); (rename Fr _ _ _ _ => zqF9); revert zqF9; (goal_has ite List.lookup); (with_reducible refine Mine.fr_let ?_); intro zqm; goal_lacks ite List.lookup; intro zqF) | ((ctx_mentions List.cons HAppend.hAppend List.append); (rename News _ _ _ _ => zqN9); (fail_if_success (fail_if_success (conv at zqN9 => arg 4; arg 2))); (with_reducible refine Mine.news_let zqN9 ?_); intro zql zqN; clear zqN9) | (k_end; wrow_close) | (goal_has PySem.Value.builtin; ((fail_if_success (fail_if_success (with_reducible show wpAny _ _ (call (Value.builtin "len") [Value.ref _]) _ _ _))); k_dflt (refine' kst_len (by k_asm) (by k_mem) (by exact IntsAre.length (by assumption)) (by omega) ?_; k_whole))) | (goal_has call; (fail_if_success (fail_if_success (with_reducible show wpAny _ _ (call (Value.ref _) _ _) _ _ _))); first | (k_dflt (first | (refine' call_cls0 (by k_asm) (by k_asm) (by k_asm) (by k_is) (by k_is) ?_; k_whole; intro zqx zqd zqh zqF zqN zql1 zql2; (try ((have zqU := Mine.lts_up zql1 zql2); (dsimp +zetaDelta only [List.map] at zqU))); (try k_lt zql1); (try k_lt2 zql2); (try k_sweep)) | ((first | (refine' call_cls (by k_asm) (by k_asm) (by k_asm) (by k_is) (by k_is) (by k_is) ?_; k_whole; intro zqx zqd zqh zqF zqN zql1 zql2; (try ((have zqU := Mine.lts_up zql1 zql2); (dsimp +zetaDelta only [List.map] at zqU))); (try k_lt zql1); (try k_lt2 zql2); (try k_sweep)) | (refine' Mine.call_fn (by k_asm) (by k_is) ?_; k_whole) | (refine' call_meth (by k_asm) (by k_mem) ?_; k_whole) | refine wpAny_call ?_); (first | (refine' code_defL (by exact rfl) (by exact rfl) (by first | exact rfl | assumption) (by k_asm) (by k_asm) (by k_asm) (by k_asm) (by k_asm) (by k_is) (by k_is) (by decide) (by ktr_room) (by first | exact BindsTo.of_eq rfl | exact binds_K (by k_in) rfl (by k_is) rfl rfl rfl) (by exact locs rfl) (by exact rfl) (by exact rfl) (by exact rfl) ?_; k_whole; intro zqg zqL zqh zqtk zqFG zqF zqN zqB zqX zqT zqe zqA; (try k_lift zqB); (try ((fail_if_success (fail_if_success k_fold)); (with_reducible refine Mine.wp_fold ?_); intro zqq zqe))) | (refine' code_defCL (by exact rfl) (by exact rfl) (by exact rfl) (by k_asm) (by k_asm) (by k_asm) (by k_asm) (by k_asm) (by k_is) (by k_is) (by ktr_room) (by first | exact BindsTo.of_eq rfl | exact binds_K (by k_in) rfl (by k_is) rfl rfl rfl) (by exact rfl) (by decide +kernel) (by exact rfl) (by exact rfl) (by exact rfl) ?_; k_whole; intro zqg zqL zqh zqtk zqcells zqFG zqF zqN zqY zqB zqX zqT zql1 zqe zqA; (try k_lt zql1); k_cells zqY; (try simp only [List.cons_append, List.nil_append] at zqN); (try dsimp only); (try k_lift zqB); (try ((fail_if_success (fail_if_success k_fold)); (with_reducible refine Mine.wp_fold ?_); intro zqq zqe)))))))) | walk1 | (dsimp only; walk1) | ((with_reducible show wpAny _ _ _ _ _ _); dsimp only) | (leave1; walk_say "STEP leave1"; (first | (with_reducible refine (?_ : wpAny _ _ _ _ _ _)) | try dsimp only))))
  all_goals (rename Fr _ _ _ _ => F9; rename News _ _ _ _ => N9)
  all_goals exact ret _ _ (tokF [_, _, _, _, _, _, _, _, _, _, _, _, _, _, _, _, _, _, _, _, _, _, _, _, _, _, _, _]) _ F9 N9
  )) only [↓Mine.wrap_i]

/-- narrow(buffer, x, y) -/
theorem narrow_core {b bd g gp ce mk li : Addr} {wz : List Value} {zz pad z0 : List Int} {nce : Nat} {T1 T2 : Nat → Tok} {nm : Str} {pt bv zv tk1 ck sv gs ge x y : Int} {t1 t2 : Tok} {ro : Bool} {own : List (Addr × Obj)}
    (B : Below A₀ base outer h₀) (F : Fr h₀ L s.heap m) (X : (Mine.fr.heap_1_1 w.params).In h₀) (N : News h₀ L s.heap ((bd, bufO w.params T1 nm g mk li pt bv zv tk1 ck sv ro) :: own)) (TT : Top p loose mean mg mb h₀)
    (mb' : (b, instObj 435 bd) ∈ own) (mg' : (g, instObj 224 gp) ∈ own) (mgp : (gp, gapO w.params T2 ce gs ge) ∈ own) (mce : (ce, listOf wz.toArray nce) ∈ own)
    (hz : IntsAre wz zz) (ez : zz = z0 ++ pad) (egs : gs = (z0.length : Int)) (ege : ge = (zz.length : Int)) (hzz : zz.length ≤ 100)
    (hx1 : 1 ≤ x) (hx2 : x ≤ (z0.length : Int) + 1) (hy1 : 1 ≤ y) (hy2 : y ≤ (z0.length : Int) + 1) (ho : ∀ p ∈ own, p.1 ≠ bd)
    (hd : dp + 5 < recursionLimit) (hu : un + 200 < cLine)
    (ret : ∀ h' tk' T1' pt' bv' zv', 1 ≤ bv' → bv' ≤ zv' → zv' ≤ (z0.length : Int) + 1 → Fr h₀ L h' m → News h₀ L h' ((bd, bufO w.params T1' nm g mk li pt' bv' zv' tk1 ck sv ro) :: own) → Q .none { s with heap := h', toks := tk' }) :
    wpAny (model prog w) (ktrTop dp un gd cn ⟨.function, cnm, cg, cc, cm⟩ L a ccd cl outer) (call (.ref (853 : Nat)) [.ref b, .int x t1, .int y t2]) Q E s := by
  refine Mine.unwrap ?_
  simp (disch := k_dflt (
  have _h : PySem.Challenge.rw_on0075_01 = PySem.Challenge.rw_on0075_01 ∧ Mine.fr.heap_1_1 = Mine.fr.heap_1_1 := by (k_fill; exact ⟨rfl, rfl⟩)
  clear _h
  w_top off
  have hzl : z0.length ≤ zz.length := by rw [ez, List.length_append]; omega
  repeat' ((first | ((fail_if_success (fail_if_success k_unfold)); (first | (with_reducible refine (?_ : wpAny _ _ _ _ _ _)) | (k_unfold; (try dsimp only)))) | ((fail_if_success (fail_if_success k_fold)); (first | (goal_has PySem.exec; (fail_if_success (fail_if_success (with_reducible show wpAny _ _ (exec _ _) _ _ _)))) | (goal_has PySem.Expr.BoolOp; (fail_if_success (fail_if_success (with_reducible show wpAny _ _ (eval (PySem.Expr.BoolOp _ _ _) _) _ _ _)))) | (goal_has PySem.Expr.Call; (fail_if_success (fail_if_success (with_reducible show wpAny _ _ (eval (PySem.Expr.Call _ _ _ _) _) _ _ _)))) | (goal_has PySem.Expr.Compare; (fail_if_success (fail_if_success (with_reducible show wpAny _ _ (eval (PySem.Expr.Compare _ _ _ _) _) _ _ _))))); (with_reducible refine Mine.wp_fold ?_); intro zqq zqe) | (goal_has PySem.Shared.mk; (with_reducible refine Mine.st_let ?_); intro zqs; goal_lacks PySem.Shared.mk) | ((ctx_mentions ite List.lookup); (rename Fr _ _ _ _ => zqF9); revert zqF9; (goal_has ite List.lookup); (with_reducible refine Mine.fr_let ?_); intro zqm; goal_lacks ite List.lookup; intro zqF) | ((ctx_mentions List.cons HAppend.hAppend List.append); (rename News _ _ _ _ => zqN9); (fail_if_success (fail_if_success (conv at zqN9 => arg 4; arg 2))); (with_reducible refine Mine.news_let zqN9 ?_); intro zql zqN; clear zqN9) | (k_end; wrow_close) | (goal_has PySem.Value.builtin; ((fail_if_success (fail_if_success (with_reducible show wpAny _ _ (call (Value.builtin "len") [Value.ref _]) _ _ _))); k_dflt (refine' kst_len (by k_asm) (by k_mem) (by exact IntsAre.length (by assumption)) (by omega) ?_; k_whole))) | (goal_has call; (fail_if_success (fail_if_success (with_reducible show wpAny _ _ (call (Value.ref _) _ _) _ _ _))); first | (k_dflt (first | (refine' call_cls0 (by k_asm) (by k_asm) (by k_asm) (by k_is) (by k_is) ?_; k_whole; intro zqx zqd zqh zqF zqN zql1 zql2; (try ((have zqU := Mine.lts_up zql1 zql2); (dsimp +zetaDelta only [List.map] at zqU))); (try k_lt zql1); (try k_lt2 zql2); (try k_sweep)) | ((first | (refine' call_cls (by k_asm) (by k_asm) (by k_asm) (by k_is) (by k_is) (by k_is) ?_; k_whole; intro zqx zqd zqh zqF zqN zql1 zql2; (try ((have zqU := Mine.lts_up zql1 zql2); (dsimp +zetaDelta only [List.map] at zqU))); (try k_lt zql1); (try k_lt2 zql2); (try k_sweep)) | (refine' Mine.call_fn (by k_asm) (by k_is) ?_; k_whole) | (refine' call_meth (by k_asm) (by k_mem) ?_; k_whole) | refine wpAny_call ?_); (first | (refine' code_defL (by exact rfl) (by exact rfl) (by first | exact rfl | assumption) (by k_asm) (by k_asm) (by k_asm) (by k_asm) (by k_asm) (by k_is) (by k_is) (by decide) (by ktr_room) (by first | exact BindsTo.of_eq rfl | exact binds_K (by k_in) rfl (by k_is) rfl rfl rfl) (by exact locs rfl) (by exact rfl) (by exact rfl) (by exact rfl) ?_; k_whole; intro zqg zqL zqh zqtk zqFG zqF zqN zqB zqX zqT zqe zqA; (try k_lift zqB); (try ((fail_if_success (fail_if_success k_fold)); (with_reducible refine Mine.wp_fold ?_); intro zqq zqe))) | (refine' code_defCL (by exact rfl) (by exact rfl) (by exact rfl) (by k_asm) (by k_asm) (by k_asm) (by k_asm) (by k_asm) (by k_is) (by k_is) (by ktr_room) (by first | exact BindsTo.of_eq rfl | exact binds_K (by k_in) rfl (by k_is) rfl rfl rfl) (by exact rfl) (by decide +kernel) (by exact rfl) (by exact rfl) (by exact rfl) ?_; k_whole; intro zqg zqL zqh zqtk zqcells zqFG zqF zqN zqY zqB zqX zqT zql1 zqe zqA; (try k_lt zql1); k_cells zqY; (try simp only [List.cons_append, List.nil_append] at zqN); (try dsimp only); (try k_lift zqB); (try ((fail_if_success (fail_if_success k_fold)); (with_reducible refine Mine.wp_fold ?_); intro zqq zqe)))))))) | walk1 | (dsimp only; walk1) | ((with_reducible show wpAny _ _ _ _ _ _); dsimp only) | (leave1; walk_say "STEP leave1"; (first | (with_reducible refine (?_ : wpAny _ _ _ _ _ _)) | try dsimp only))))
  all_goals (rename Fr _ _ _ _ => F9; rename News _ _ _ _ => N9)
  all_goals (refine' ret _ _ (tokF [_, _, _, _, _, _, _, _, _, _, _, _, _, _, _, _, _, _, _, _, _, _, _, _, _, _, _, _]) _ _ _ ?b1 ?b2 ?b3 F9 ?eN; (case eN => exact cb_drop N9 (by kcj_all)); (case b1 => (repeat' split) <;> omega); (case b2 => (repeat' split) <;> omega); (case b3 => (repeat' split) <;> omega))
  )) only [↓Mine.wrap_i]

theorem mod_ok {b bd g mk li : Addr} {T1 : Nat → Tok} {nm : Str} {pt bv zv tk1 ck sv : Int} {ro : Bool} {news : List (Addr × Obj)} {news₁ : Obj → List (Addr × Obj)}
    (B : Below A₀ base outer h₀) (F : Fr h₀ L s.heap m) (X : (Mine.fr.heap_1_1 w.params).In h₀) (N : News h₀ L s.heap news) (TT : Top p loose mean mg mb h₀)
    (mb' : (b, instObj 435 bd) ∈ news) (hne : @Ne Nat b bd) (U : ∀ o', Upd bd (bufO w.params T1 nm g mk li pt bv zv tk1 ck sv ro) o' news (news₁ o'))
    (hd : dp + 5 < recursionLimit) (hu : un + 200 < cLine)
    (ret : ∀ h' tk' T1' sv', Fr h₀ L h' m → News h₀ L h' (news₁ (bufO w.params T1' nm g mk li pt bv zv tk1 ck sv' ro)) → Q .none { s with heap := h', toks := tk' }) :
    wpAny (model prog w) (ktrTop dp un gd cn ⟨.function, cnm, cg, cc, cm⟩ L a ccd cl outer) (call (.ref (425 : Nat)) [.ref b, .bool false]) Q E s :=
  mod_core B F X (one_in U N) TT (less1_of mb' hne) (fun q hq => (less1_mem.mp hq).2) hd hu fun h' tk' T1' sv' F' N' => ret h' tk' T1' sv' F' (one_out U N')

theorem narrow_ok {b bd g gp ce mk li : Addr} {wz : List Value} {zz pad z0 : List Int} {nce : Nat} {T1 T2 : Nat → Tok} {nm : Str} {pt bv zv tk1 ck sv gs ge x y : Int} {t1 t2 : Tok} {ro : Bool} {news : List (Addr × Obj)} {news₁ : Obj → List (Addr × Obj)}
    (B : Below A₀ base outer h₀) (F : Fr h₀ L s.heap m) (X : (Mine.fr.heap_1_1 w.params).In h₀) (N : News h₀ L s.heap news) (TT : Top p loose mean mg mb h₀)
    (mb' : (b, instObj 435 bd) ∈ news) (hne : @Ne Nat b bd) (U : ∀ o', Upd bd (bufO w.params T1 nm g mk li pt bv zv tk1 ck sv ro) o' news (news₁ o'))
    (mg' : (g, instObj 224 gp) ∈ news) (hne1 : @Ne Nat g bd) (mgp : (gp, gapO w.params T2 ce gs ge) ∈ news) (hne2 : @Ne Nat gp bd) (mce : (ce, listOf wz.toArray nce) ∈ news) (hne3 : @Ne Nat ce bd)
    (hz : IntsAre wz zz) (ez : zz = z0 ++ pad) (egs : gs = (z0.length : Int)) (ege : ge = (zz.length : Int)) (hzz : zz.length ≤ 100)
    (hx1 : 1 ≤ x) (hx2 : x ≤ (z0.length : Int) + 1) (hy1 : 1 ≤ y) (hy2 : y ≤ (z0.length : Int) + 1)
    (hd : dp + 5 < recursionLimit) (hu : un + 200 < cLine)
    (ret : ∀ h' tk' T1' pt' bv' zv', 1 ≤ bv' → bv' ≤ zv' → zv' ≤ (z0.length : Int) + 1 → Fr h₀ L h' m → News h₀ L h' (news₁ (bufO w.params T1' nm g mk li pt' bv' zv' tk1 ck sv ro)) → Q .none { s with heap := h', toks := tk' }) :
    wpAny (model prog w) (ktrTop dp un gd cn ⟨.function, cnm, cg, cc, cm⟩ L a ccd cl outer) (call (.ref (853 : Nat)) [.ref b, .int x t1, .int y t2]) Q E s :=
  narrow_core B F X (one_in U N) TT (less1_of mb' hne) (less1_of mg' hne1) (less1_of mgp hne2) (less1_of mce hne3) hz ez egs ege hzz hx1 hx2 hy1 hy2 (fun q hq => (less1_mem.mp hq).2) hd hu
    fun h' tk' T1' pt' bv' zv' b1 b2 b3 F' N' => ret h' tk' T1' pt' bv' zv' b1 b2 b3 F' (one_out U N')
end
local macro_rules | `(tactic| k_all) => `(tactic| first | exact Mine.allNe_of_lt (by with_reducible assumption) | exact fun p hp => Nat.ne_of_lt ((by with_reducible assumption : ∀ q ∈ _, q.1 < _) p hp))
local macro_rules | `(tactic| k_all) => `(tactic| first | ((with_reducible refine List.forall_mem_append.mpr ⟨?kal, ?kar⟩); (case kal => k_all); (case kar => k_all)) | exact Mine.off1_ne (by with_reducible assumption))
section
variable {prog : Program} {w : World} {p : Program} {loose : List Str} {mean : ExcName → Option Value} {mg mb : Str → Option Value} {dp un : Nat} {gd : Option (List Code)} {cn : Str} {cnm : List (Str × NameKind)} {cg cc : Bool} {cm : List (Str × Const)} {a : Addr} {ccd : Value} {cl : List (Str × Addr)} {outer : List Env} {A₀ : Around} {base h₀ : Heap} {L : Addr} {m : Str → Option Value} {s : Shared} {Q E : Value → Shared → Prop}

theorem nm_ok {z : Str} (h : z = Str.ofString "x" ∨ z = Str.ofString "a buffer") : PyData.strOk z = true := by
  rcases h with rfl | rfl <;> decide +kernel
/-- the made buffer's ledger, put out of sight -/
theorem lb_hide {h₀ h : Heap} {L d c b bd g gp ce cd x : Addr} {P : Params} {T1 T2 : Nat → Tok} {nm : Str} {mk li mkd rd l : Addr} {pt bv zv tk ck sv gs ge S k : Int} {tS tkk : Tok} {ro : Bool} {ws ys vs : List Value} {nc nd nce : Nat} {o1 o2 o3 o4 o5 ox : Obj} {own : List (Addr × Obj)}
    (N : News h₀ L h ((ce, listOf ws.toArray nce) :: (gp, gapO P T2 ce gs ge) :: (bd, bufO P T1 nm g mk li pt bv zv tk ck sv ro) :: (b, instObj 435 bd) :: (g, instObj 224 gp) :: (mk, o1) :: (mkd, o2) :: (rd, o3) :: (li, o4) :: (l, o5) :: (cd, LCg.lst ys) :: (x, ox) :: (d, deckO c S tS k tkk nd) :: (c, listOf vs.toArray nc) :: own))
    (hd1 : @Ne Nat ce d) (hd2 : @Ne Nat gp d) (hd3 : @Ne Nat b d) (hd4 : @Ne Nat g d) (hd5 : @Ne Nat cd d) (hd6 : @Ne Nat x d) (hc1 : @Ne Nat ce c) (hc2 : @Ne Nat gp c) (hc3 : @Ne Nat b c) (hc4 : @Ne Nat g c) (hc5 : @Ne Nat cd c) (hc6 : @Ne Nat x c)
    (hb1 : @Ne Nat ce bd) (hb2 : @Ne Nat gp bd) (hb3 : @Ne Nat b bd) (hb4 : @Ne Nat g bd) (hb5 : @Ne Nat cd bd) (hb6 : @Ne Nat x bd) (od : ∀ p ∈ own, p.1 ≠ d) (oc : ∀ p ∈ own, p.1 ≠ c) (ob : ∀ p ∈ own, p.1 ≠ bd) :
    ∃ own', News h₀ L h ((d, deckO c S tS k tkk nd) :: (c, listOf vs.toArray nc) :: (bd, bufO P T1 nm g mk li pt bv zv tk ck sv ro) :: own') ∧ (b, instObj 435 bd) ∈ own' ∧ (g, instObj 224 gp) ∈ own' ∧ (gp, gapO P T2 ce gs ge) ∈ own' ∧ (ce, listOf ws.toArray nce) ∈ own' ∧ (cd, listOf ys.toArray ys.length) ∈ own' ∧ (x, ox) ∈ own' ∧
      (∀ p ∈ own', p.1 ≠ d) ∧ (∀ p ∈ own', p.1 ≠ c) ∧ (∀ p ∈ own', p.1 ≠ bd) := by
  refine ⟨(ce, listOf ws.toArray nce) :: (gp, gapO P T2 ce gs ge) :: (b, instObj 435 bd) :: (g, instObj 224 gp) :: (cd, listOf ys.toArray ys.length) :: (x, ox) :: own, fun p hp => N p ?_, ?_, ?_, ?_, .head _, ?_, ?_, ?_, ?_, ?_⟩
  · simp only [List.mem_cons] at hp ⊢
    rcases hp with h | h | h | h | h | h | h | h | h | h
    · exact .inr (.inr (.inr (.inr (.inr (.inr (.inr (.inr (.inr (.inr (.inr (.inr (.inl h))))))))))))
    · exact .inr (.inr (.inr (.inr (.inr (.inr (.inr (.inr (.inr (.inr (.inr (.inr (.inr (.inl h)))))))))))))
    · exact .inr (.inr (.inl h))
    · exact .inl h
    · exact .inr (.inl h)
    · exact .inr (.inr (.inr (.inl h)))
    · exact .inr (.inr (.inr (.inr (.inl h))))
    · exact .inr (.inr (.inr (.inr (.inr (.inr (.inr (.inr (.inr (.inr (.inl h))))))))))
    · exact .inr (.inr (.inr (.inr (.inr (.inr (.inr (.inr (.inr (.inr (.inr (.inl h)))))))))))
    · exact .inr (.inr (.inr (.inr (.inr (.inr (.inr (.inr (.inr (.inr (.inr (.inr (.inr (.inr h)))))))))))))
  · exact .tail _ (.tail _ (.head _))
  · exact .tail _ (.tail _ (.tail _ (.head _)))
  · exact .tail _ (.head _)
  · exact .tail _ (.tail _ (.tail _ (.tail _ (.head _))))
  · exact .tail _ (.tail _ (.tail _ (.tail _ (.tail _ (.head _)))))
  · exact List.forall_mem_cons.mpr ⟨hd1, List.forall_mem_cons.mpr ⟨hd2, List.forall_mem_cons.mpr ⟨hd3, List.forall_mem_cons.mpr ⟨hd4, List.forall_mem_cons.mpr ⟨hd5, List.forall_mem_cons.mpr ⟨hd6, od⟩⟩⟩⟩⟩⟩
  · exact List.forall_mem_cons.mpr ⟨hc1, List.forall_mem_cons.mpr ⟨hc2, List.forall_mem_cons.mpr ⟨hc3, List.forall_mem_cons.mpr ⟨hc4, List.forall_mem_cons.mpr ⟨hc5, List.forall_mem_cons.mpr ⟨hc6, oc⟩⟩⟩⟩⟩⟩
  · exact List.forall_mem_cons.mpr ⟨hb1, List.forall_mem_cons.mpr ⟨hb2, List.forall_mem_cons.mpr ⟨hb3, List.forall_mem_cons.mpr ⟨hb4, List.forall_mem_cons.mpr ⟨hb5, List.forall_mem_cons.mpr ⟨hb6, ob⟩⟩⟩⟩⟩⟩
/-- what changes in _law_buffer behind the insertion -/
structure LbS where
  k : Int
  t : Tok
  n : Nat
  vs : List Value
  ns : List Int
  c : Nat
  T : Nat → Tok
  sv : Int
  pt : Int
  bv : Int
  zv : Int
def ledB {h₀ h : Heap} {L d c bd : Addr} {P : Params} {T1 : Nat → Tok} {nm : Str} {g mk li : Addr} {pt bv zv tk ck sv S k : Int} {tS tkk : Tok} {ro : Bool} {vs : List Value} {nc nd : Nat} {own : List (Addr × Obj)}
    (_ : News h₀ L h ((d, deckO c S tS k tkk nd) :: (c, listOf vs.toArray nc) :: (bd, bufO P T1 nm g mk li pt bv zv tk ck sv ro) :: own)) (q : LbS) : List (Addr × Obj) :=
  (d, deckO c S tS q.k q.t q.n) :: (c, listOf q.vs.toArray q.c) :: (bd, bufO P q.T nm g mk li q.pt q.bv q.zv tk ck q.sv ro) :: own
def jB (z : Int) (q : LbS) : Prop := IntsAre q.vs q.ns ∧ q.ns.length ≤ 24 ∧ 1 ≤ q.bv ∧ q.bv ≤ q.zv ∧ q.zv ≤ z + 1
theorem lbuf_core {d c : Addr} {vs : List Value} {ns : List Int} {S k : Int} {tS tk : Tok} {n nc : Nat} {own : List (Addr × Obj)}
    (B : Below A₀ base outer h₀) (F : Fr h₀ L s.heap m) (X : (Mine.fr.heap_1_1 w.params).In h₀) (N : News h₀ L s.heap ((d, deckO c S tS k tk n) :: (c, listOf vs.toArray nc) :: own)) (T : Top p loose mean mg mb h₀)
    (hi : IntsAre vs ns) (hlen : ns.length ≤ 24) (hoffd : ∀ p ∈ own, p.1 ≠ d) (hoffc : ∀ p ∈ own, p.1 ≠ c) (hdc : @Ne Nat d c)
    (hd : dp + 20 < recursionLimit) (hu : un + 400 < cLine)
    (ret : ∀ tp b bd g gp ce cd T2 nm bv zv gs ge wz wc zz pad z0 nce ncd ntp own' h' tk' T1 mk li pt tk1 ck sv ro vs' ns' k' tk2 n' nc', LB w.params tp d c b bd g gp ce cd T2 nm bv zv gs ge wz wc zz pad z0 nce ncd ntp own' → IntsAre vs' ns' → ns'.length ≤ 24 → Fr h₀ L h' m →
      News h₀ L h' ((d, deckO c S tS k' tk2 n') :: (c, listOf (List.toArray vs') nc') :: (bd, bufO w.params T1 nm g mk li pt bv zv tk1 ck sv ro) :: own') → Q (.ref tp) { s with heap := h', toks := tk' })
     :
    wpAny (model prog w) (ktrTop dp un gd cn ⟨.function, cnm, cg, cc, cm⟩ L a ccd cl outer) (call (.ref (1037 : Nat)) [.ref d]) Q E s := by
  refine Mine.unwrap ?_
  simp (disch := k_dflt (
  have _h : PySem.Challenge.rw_on0075_01 = PySem.Challenge.rw_on0075_01 ∧ Mine.fr.heap_1_1 = Mine.fr.heap_1_1 := by (k_fill; exact ⟨rfl, rfl⟩)
  clear _h
  w_top off
  repeat' ((fail_if_success (with_reducible show LCg.CompSrc _ _ _ _ _ _ _ _ _ _ _ _ _ _)); ((first | ((fail_if_success (fail_if_success k_unfold)); (first | (with_reducible refine (?_ : wpAny _ _ _ _ _ _)) | (k_unfold; (try dsimp only)))) | ((fail_if_success (fail_if_success k_fold)); (first | (goal_has PySem.exec; (fail_if_success (fail_if_success (with_reducible show wpAny _ _ (exec _ _) _ _ _)))) | (goal_has PySem.Expr.BoolOp; (fail_if_success (fail_if_success (with_reducible show wpAny _ _ (eval (PySem.Expr.BoolOp _ _ _) _) _ _ _)))) | (goal_has PySem.Expr.Call; (fail_if_success (fail_if_success (with_reducible show wpAny _ _ (eval (PySem.Expr.Call _ _ _ _) _) _ _ _)))) | (goal_has PySem.Expr.Compare; (fail_if_success (fail_if_success (with_reducible show wpAny _ _ (eval (PySem.Expr.Compare _ _ _ _) _) _ _ _))))); (with_reducible refine Mine.wp_fold ?_); intro zqq zqe) | (goal_has PySem.Shared.mk; (with_reducible refine Mine.st_let ?_); intro zqs; goal_lacks PySem.Shared.mk) | ((ctx_mentions ite List.lookup); (rename Fr _ _ _ _ => zqF9); revert zqF9; (goal_has ite List.lookup); (with_reducible refine Mine.fr_let ?_); intro zqm; goal_lacks ite List.lookup; intro zqF) | ((ctx_mentions List.cons HAppend.hAppend List.append); (rename News _ _ _ _ => zqN9); (fail_if_success (fail_if_success (conv at zqN9 => arg 4; arg 2))); (with_reducible refine Mine.news_let zqN9 ?_); intro zql zqN; clear zqN9) | (k_end; wrow_close) | (goal_has subscriptTail; first | ((fail_if_success (fail_if_success (with_reducible show wpAny _ _ (subscriptTail _ _ (Value.ref _) (Value.int _ _)) _ _ _))); k_dflt (refine' Mine.pick_two (by k_asm) (by k_mem) (by omega) (by omega) ?_); intro zqz' zqt' zqhz') | ((fail_if_success (fail_if_success (with_reducible show wpAny _ _ (subscriptTail _ _ (Value.ref _) (Value.int _ _)) _ _ _))); k_dflt (refine' Mine.item_ints (by k_asm) (by k_mem) (by assumption) (by omega) (by omega) (by omega) ?_); intro zqx' zqt' zqhx') | ((fail_if_success (fail_if_success (with_reducible show wpAny _ _ (subscriptTail _ (PySem.Expr.Slice _ _ none _) (Value.ref _) (Value.ref _)) _ _ _))); k_dflt (refine' Mine.cut_slice (by k_asm) (by k_asm) (by k_mem) (by exact IsPart.int _ _) (by exact IsPart.int _ _) (by first | decide | omega) (by first | decide | omega) (by assumption) (by first | assumption | exact rfl) (by omega) ?_ (by with_unfolding_all rfl) (by kmk_pure)); intro zqD' zqh' zqws' zqzs' zqhzs' zqhzl' zqhzi' zqF' zqN' zql1; (try k_lt zql1); (try k_sweep))) | (goal_has LCg.CompSrc; ((fail_if_success (fail_if_success (with_reducible show LCg.CompSrc _ _ _ _ _ _ _ _ _ _ _ _ _ _))); k_dflt (refine' LCg.CompSrc.range (by exact rfl) (by k_asm) (by k_asm) (by assumption) (by exact small_one (by omega) (by omega) (by omega) (by omega)) (by exact rangeSize_nat _ _) (by ((rw [PySem.sizeLine_eq]); omega)) ?_); intro zqg'; k_dflt (refine' Mine.comp_deck Mine.OkCode (by (intro zqo'; k_upd)) (by (intro zqo₁ zqo'; k_upd)) (by l_ints) (by assumption) (fun v' I' oI' C' oC' D' m' ys' h' tk' E' vs' ns' k' tk2' n' nc' hi' hl' hC' hx' F' N' off' ne' => ?_) (fun ys' vs' ns' k' tk2' n' nc' hyl' hok' hi' hl' => ?_)); (all_goals (try (dsimp only at *))); (all_goals (try (simp only [LCg.Off3, and_true] at off'))); (all_goals (try ((fail_if_success (fail_if_success k_fold)); (with_reducible refine Mine.wp_fold ?_); intro zqq zqe))))) | (goal_has PySem.Value.builtin; first | ((fail_if_success (fail_if_success (with_reducible show wpAny _ _ (call (Value.builtin "sorted") [Value.ref _]) _ _ _))); k_dflt (refine' Mine.sorted_nil (by exact rfl) (by k_asm) (by k_asm) (by k_mem) (by k_asm) (by k_asm) ?_); intro zqD' zqn' zqh' zqtk' zqF' zqN' zql1; (try k_lt zql1); (try k_sweep)) | ((fail_if_success (fail_if_success (with_reducible show wpAny _ _ (call (Value.builtin "len") [Value.ref _]) _ _ _))); k_dflt (refine' kst_len (by k_asm) (by k_mem) (by exact IntsAre.length (by assumption)) (by omega) ?_; k_whole)) | ((fail_if_success (fail_if_success (with_reducible show wpAny _ _ (call (Value.builtin _) [Value.ref _, Value.int _ _]) _ _ _))); k_dflt (refine' Mine.pop0 (by k_asm) (by k_asm) (by k_upd) (by ((simp only [List.length_cons, sizeLine_eq]); omega)) ?_; k_whole); intro zqh' zqF' zqN'; (try k_sweep))) | (goal_has binaryOp; first | ((fail_if_success (fail_if_success (with_reducible show wpAny _ _ (binaryOp Operator.Mult (Value.ref _) (Value.int _ _)) _ _ _))); k_dflt (refine' Mine.rep_list (by k_asm) (by k_asm) (by k_mem) (by first | decide | omega) (by first | decide | omega) ?_); intro zqD' zqh' zqws' zqzs' zqhzs' zqhzl' zqhzi' zqF' zqN' zql1; (try k_lt zql1); (try k_sweep)) | ((fail_if_success (fail_if_success (with_reducible show wpAny _ _ (binaryOp Operator.FloorDiv (Value.int _ _) (Value.int _ _)) _ _ _))); refine floordiv_int (by omega) ?_ (Or.inl (PyProof.noPylong_small (by omega))))) | (goal_has setItem; ((fail_if_success (fail_if_success (with_reducible show wpAny _ _ (setItem (Value.ref _) (Value.ref _) (Value.ref _)) _ _ _))); k_dflt (refine' Mine.set_slice_ints (by k_asm) (by k_asm) (by exact IsPart.int _ _) (by exact IsPart.int _ _) (by (intro zqo'; k_upd)) (by k_mem) (by first | decide | omega) (by first | decide | omega) (by k_ne) (by assumption) (by first | assumption | exact IntsAre.nil) (by first | assumption | exact rfl) (by first | assumption | exact rfl) (by omega) ?_); intro zqh' zqws' zqzs' zqn' zqhzs' zqhzl' zqhzi' zqF' zqN'; (try dsimp only at zqN'); (try k_sweep))) | (goal_has pyIter; ((fail_if_success (fail_if_success (with_reducible show wpAny _ _ (pyIter (Value.ref _)) (fun it s₂ => LoopAtV _ _ _ _ _ _ _ _ _ it s₂) _ _))); k_dflt (refine' Mine.iter_nil (by exact rfl) (by k_asm) (by k_asm) (by k_mem) ?_); intro zqh' zqtk' zqF' zqN'; (try k_sweep))) | (goal_has call; (fail_if_success (fail_if_success (with_reducible show wpAny _ _ (call (Value.ref _) _ _) _ _ _))); first | ((fail_if_success (fail_if_success (with_reducible show wpAny _ _ (call (Value.ref (639 : Nat)) [Value.ref _, Value.int _ _, Value.ref _]) _ _ _))); k_dflt (refine' Mine.ins_core (by k_asm) (by k_asm) (by k_asm) (by k_asm) (by k_asm) (by k_mem) (by k_mem) (by k_mem) (by k_mem) (by k_mem) (by assumption) (by assumption) (by k_mem) (by k_mem) (by assumption) (by first | assumption | omega) (by assumption) (by assumption) (by k_all) (by k_all) (by k_all) (by k_ne) (by k_ne) (by k_ne) (by ktr_room) (by ktr_units) ?_); intro zqh' zqtk' zqws' zqzz' zqpad' zqT1' zqT2' zqn' zqgs' zqge' zqzv' zqtk9' zqck' zqhzz' zqhzL' zqhzi' zqhgs' zqhge' zqhzv' zqhtk' zqF' zqN'; (try k_sweep); (try dsimp only); (try ((fail_if_success (fail_if_success k_fold)); (with_reducible refine Mine.wp_fold ?_); intro zqq zqe))) | ((fail_if_success (fail_if_success (with_reducible show wpAny _ _ (call (Value.ref (435 : Nat)) [Value.int _ _, Value.str _ _]) _ _ _))); k_dflt (refine' Mine.buf_ok (by k_asm) (by k_asm) (by k_asm) (by k_asm) (by k_asm) (by ktr_room) (by ktr_units) ?_); intro zqh' zqtk' zqb' zqbd' zqg' zqgp' zqce' zqmk' zqmkd' zqrd' zqli' zqtr' zqnce' zqnli' zqro' zqzs' zqz0' zqT1' zqT2' zql1 zql3 zql4 zql2 zqlo' zqhd' zqhz' zqhz8' zqF' zqN'; (obtain ⟨lu1, lu2, lu3, lu4, lu5, lu6, lu7, lu8⟩ := Mine.lts_chain8 zql1 zql2); (try dsimp +zetaDelta only [List.map] at lu1 lu2 lu3 lu4 lu5 lu6 lu7 lu8); (try k_lt zql1); (try k_lt zql3); (try k_lt zql4); (try k_sweep); (try dsimp only); (try ((fail_if_success (fail_if_success k_fold)); (with_reducible refine Mine.wp_fold ?_); intro zqq zqe))) | ((fail_if_success (fail_if_success (with_reducible show wpAny _ _ (call (Value.ref (853 : Nat)) [Value.ref _, Value.int _ _, Value.int _ _]) _ _ _))); k_dflt (refine' Mine.narrow_ok (by k_asm) (by k_asm) (by k_asm) (by k_asm) (by k_asm) (by k_mem) (by k_ne) (by (intro zqo'; k_upd)) (by k_mem) (by k_ne) (by k_mem) (by k_ne) (by k_mem) (by k_ne) (by assumption) (by assumption) (by assumption) (by assumption) (by assumption) (by omega) (by omega) (by omega) (by omega) (by ktr_room) (by ktr_units) ?_); intro zqh' zqtk' zqT1' zqpt' zqbv' zqzv' zqhbv1' zqhbv2' zqhbv3' zqF' zqN'; (try dsimp only at zqN'); (try k_sweep); (try dsimp only); (try ((fail_if_success (fail_if_success k_fold)); (with_reducible refine Mine.wp_fold ?_); intro zqq zqe))) | ((fail_if_success (fail_if_success (with_reducible show wpAny _ _ (call (Value.ref (425 : Nat)) [Value.ref _, Value.bool false]) _ _ _))); k_dflt (refine' Mine.mod_ok (by k_asm) (by k_asm) (by k_asm) (by k_asm) (by k_asm) (by k_mem) (by k_ne) (by (intro zqo'; k_upd)) (by ktr_room) (by ktr_units) ?_); intro zqh' zqtk' zqT1' zqsv' zqF' zqN'; (try dsimp only at zqN'); (try k_sweep); (try dsimp only); (try ((fail_if_success (fail_if_success k_fold)); (with_reducible refine Mine.wp_fold ?_); intro zqq zqe))) | ((fail_if_success (fail_if_success (with_reducible show wpAny _ _ (call (Value.ref (1027 : Nat)) [Value.ref _, Value.int _ _]) _ _ _))); k_dflt (refine' Mine.draw_ok (by k_asm) (by k_asm) (by k_asm) (by k_asm) (by k_asm) (by first | exact rfl | assumption) (by (intro zqo'; k_upd)) (by (intro zqo₁ zqo'; k_upd)) (by l_ints) (by first | assumption | omega) (by first | decide | omega) (by first | decide | omega) (by ktr_room) (by ktr_units) ?_); intro zqr' zqt' zqh' zqtk' zqvs' zqns' zqk' zqtk2' zqn' zqnc' zqhr0' zqhr1' zqhi' zqhl' zqF' zqN'; (try dsimp only at zqN'); (try k_sweep); (try dsimp only); (try ((fail_if_success (fail_if_success k_fold)); (with_reducible refine Mine.wp_fold ?_); intro zqq zqe))) | (k_dflt (first | (refine' call_cls0 (by k_asm) (by k_asm) (by k_asm) (by k_is) (by k_is) ?_; k_whole; intro zqx zqd zqh zqF zqN zql1 zql2; (try ((have zqU := Mine.lts_up zql1 zql2); (dsimp +zetaDelta only [List.map] at zqU))); (try k_lt zql1); (try k_lt2 zql2); (try k_sweep)) | ((first | (refine' call_cls (by k_asm) (by k_asm) (by k_asm) (by k_is) (by k_is) (by k_is) ?_; k_whole; intro zqx zqd zqh zqF zqN zql1 zql2; (try ((have zqU := Mine.lts_up zql1 zql2); (dsimp +zetaDelta only [List.map] at zqU))); (try k_lt zql1); (try k_lt2 zql2); (try k_sweep)) | (refine' Mine.call_fn (by k_asm) (by k_is) ?_; k_whole) | (refine' call_meth (by k_asm) (by k_mem) ?_; k_whole) | refine wpAny_call ?_); (first | (refine' code_defL (by exact rfl) (by exact rfl) (by first | exact rfl | assumption) (by k_asm) (by k_asm) (by k_asm) (by k_asm) (by k_asm) (by k_is) (by k_is) (by decide) (by ktr_room) (by first | exact BindsTo.of_eq rfl | exact binds_K (by k_in) rfl (by k_is) rfl rfl rfl) (by exact locs rfl) (by exact rfl) (by exact rfl) (by exact rfl) ?_; k_whole; intro zqg zqL zqh zqtk zqFG zqF zqN zqB zqX zqT zqe zqA; (try k_lift zqB); (try ((fail_if_success (fail_if_success k_fold)); (with_reducible refine Mine.wp_fold ?_); intro zqq zqe))) | (refine' code_defCL (by exact rfl) (by exact rfl) (by exact rfl) (by k_asm) (by k_asm) (by k_asm) (by k_asm) (by k_asm) (by k_is) (by k_is) (by ktr_room) (by first | exact BindsTo.of_eq rfl | exact binds_K (by k_in) rfl (by k_is) rfl rfl rfl) (by exact rfl) (by decide +kernel) (by exact rfl) (by exact rfl) (by exact rfl) ?_; k_whole; intro zqg zqL zqh zqtk zqcells zqFG zqF zqN zqY zqB zqX zqT zql1 zqe zqA; (try k_lt zql1); k_cells zqY; (try simp only [List.cons_append, List.nil_append] at zqN); (try dsimp only); (try k_lift zqB); (try ((fail_if_success (fail_if_success k_fold)); (with_reducible refine Mine.wp_fold ?_); intro zqq zqe)))))))) | walk1 | (dsimp only; walk1) | ((with_reducible show wpAny _ _ _ _ _ _); dsimp only) | (leave1; walk_say "STEP leave1"; (first | (with_reducible refine (?_ : wpAny _ _ _ _ _ _)) | try dsimp only)))))
  k_dflt (refine' LCg.CompSrc.range ?r0 ?k1 ?k2 ?r1 ?r2 ?r3 ?r4 ?_; (case r0 => exact rfl); (case k1 => k_asm); (case k2 => k_asm); (case r1 => assumption); (case r2 => exact small_one (by omega) (by omega) (by omega) (by omega)); (case r3 => exact rangeSize_nat _ _); (case r4 => ((rw [PySem.sizeLine_eq]); omega)))
  intro g'
  k_dflt refine' Mine.comp_deck (d := d) (c := c) Mine.OkCode ?u1 ?u2 ?ki ?kl ?turn ?fin
  (case u1 => (intro o'; k_upd))
  (case u2 => (intro o₁ o'; k_upd))
  (case ki => assumption)
  (case kl => assumption)
  case turn =>
    intro v' I' oI' C' oC' D' m' ys' h' tk' E' vs' ns' k' tk2' n' nc' hi' hl' hC' hx' F' N' off' ne'
    (try (dsimp only at *)); (try (simp only [LCg.Off3, and_true] at off')); (try ((fail_if_success (fail_if_success k_fold)); (with_reducible refine Mine.wp_fold ?_); intro zqq zqe))
    repeat' ((first | ((fail_if_success (fail_if_success k_unfold)); (first | (with_reducible refine (?_ : wpAny _ _ _ _ _ _)) | (k_unfold; (try dsimp only)))) | ((fail_if_success (fail_if_success k_fold)); (first | (goal_has PySem.exec; (fail_if_success (fail_if_success (with_reducible show wpAny _ _ (exec _ _) _ _ _)))) | (goal_has PySem.Expr.BoolOp; (fail_if_success (fail_if_success (with_reducible show wpAny _ _ (eval (PySem.Expr.BoolOp _ _ _) _) _ _ _)))) | (goal_has PySem.Expr.Call; (fail_if_success (fail_if_success (with_reducible show wpAny _ _ (eval (PySem.Expr.Call _ _ _ _) _) _ _ _)))) | (goal_has PySem.Expr.Compare; (fail_if_success (fail_if_success (with_reducible show wpAny _ _ (eval (PySem.Expr.Compare _ _ _ _) _) _ _ _))))); (with_reducible refine Mine.wp_fold ?_); intro zqq zqe) | (goal_has PySem.Shared.mk; (with_reducible refine Mine.st_let ?_); intro zqs; goal_lacks PySem.Shared.mk) | ((ctx_mentions ite List.lookup); (rename Fr _ _ _ _ => zqF9); revert zqF9; (goal_has ite List.lookup); (with_reducible refine Mine.fr_let ?_); intro zqm; goal_lacks ite List.lookup; intro zqF) | ((ctx_mentions List.cons HAppend.hAppend List.append); (rename News _ _ _ _ => zqN9); (fail_if_success (fail_if_success (conv at zqN9 => arg 4; arg 2))); (with_reducible refine Mine.news_let zqN9 ?_); intro zql zqN; clear zqN9) | (k_end; wrow_close) | (goal_has subscriptTail; first | ((fail_if_success (fail_if_success (with_reducible show wpAny _ _ (subscriptTail _ _ (Value.ref _) (Value.int _ _)) _ _ _))); k_dflt (refine' Mine.pick_two (by k_asm) (by k_mem) (by omega) (by omega) ?_); intro zqz' zqt' zqhz') | ((fail_if_success (fail_if_success (with_reducible show wpAny _ _ (subscriptTail _ _ (Value.ref _) (Value.int _ _)) _ _ _))); k_dflt (refine' Mine.item_ints (by k_asm) (by k_mem) (by assumption) (by omega) (by omega) (by omega) ?_); intro zqx' zqt' zqhx') | ((fail_if_success (fail_if_success (with_reducible show wpAny _ _ (subscriptTail _ (PySem.Expr.Slice _ _ none _) (Value.ref _) (Value.ref _)) _ _ _))); k_dflt (refine' Mine.cut_slice (by k_asm) (by k_asm) (by k_mem) (by exact IsPart.int _ _) (by exact IsPart.int _ _) (by first | decide | omega) (by first | decide | omega) (by assumption) (by first | assumption | exact rfl) (by omega) ?_ (by with_unfolding_all rfl) (by kmk_pure)); intro zqD' zqh' zqws' zqzs' zqhzs' zqhzl' zqhzi' zqF' zqN' zql1; (try k_lt zql1); (try k_sweep))) | (goal_has LCg.CompSrc; ((fail_if_success (fail_if_success (with_reducible show LCg.CompSrc _ _ _ _ _ _ _ _ _ _ _ _ _ _))); k_dflt (refine' LCg.CompSrc.range (by exact rfl) (by k_asm) (by k_asm) (by assumption) (by exact small_one (by omega) (by omega) (by omega) (by omega)) (by exact rangeSize_nat _ _) (by ((rw [PySem.sizeLine_eq]); omega)) ?_); intro zqg'; k_dflt (refine' Mine.comp_deck Mine.OkCode (by (intro zqo'; k_upd)) (by (intro zqo₁ zqo'; k_upd)) (by l_ints) (by assumption) (fun v' I' oI' C' oC' D' m' ys' h' tk' E' vs' ns' k' tk2' n' nc' hi' hl' hC' hx' F' N' off' ne' => ?_) (fun ys' vs' ns' k' tk2' n' nc' hyl' hok' hi' hl' => ?_)); (all_goals (try (dsimp only at *))); (all_goals (try (simp only [LCg.Off3, and_true] at off'))); (all_goals (try ((fail_if_success (fail_if_success k_fold)); (with_reducible refine Mine.wp_fold ?_); intro zqq zqe))))) | (goal_has PySem.Value.builtin; first | ((fail_if_success (fail_if_success (with_reducible show wpAny _ _ (call (Value.builtin "sorted") [Value.ref _]) _ _ _))); k_dflt (refine' Mine.sorted_nil (by exact rfl) (by k_asm) (by k_asm) (by k_mem) (by k_asm) (by k_asm) ?_); intro zqD' zqn' zqh' zqtk' zqF' zqN' zql1; (try k_lt zql1); (try k_sweep)) | ((fail_if_success (fail_if_success (with_reducible show wpAny _ _ (call (Value.builtin "len") [Value.ref _]) _ _ _))); k_dflt (refine' kst_len (by k_asm) (by k_mem) (by exact IntsAre.length (by assumption)) (by omega) ?_; k_whole)) | ((fail_if_success (fail_if_success (with_reducible show wpAny _ _ (call (Value.builtin _) [Value.ref _, Value.int _ _]) _ _ _))); k_dflt (refine' Mine.pop0 (by k_asm) (by k_asm) (by k_upd) (by ((simp only [List.length_cons, sizeLine_eq]); omega)) ?_; k_whole); intro zqh' zqF' zqN'; (try k_sweep))) | (goal_has binaryOp; first | ((fail_if_success (fail_if_success (with_reducible show wpAny _ _ (binaryOp Operator.Mult (Value.ref _) (Value.int _ _)) _ _ _))); k_dflt (refine' Mine.rep_list (by k_asm) (by k_asm) (by k_mem) (by first | decide | omega) (by first | decide | omega) ?_); intro zqD' zqh' zqws' zqzs' zqhzs' zqhzl' zqhzi' zqF' zqN' zql1; (try k_lt zql1); (try k_sweep)) | ((fail_if_success (fail_if_success (with_reducible show wpAny _ _ (binaryOp Operator.FloorDiv (Value.int _ _) (Value.int _ _)) _ _ _))); refine floordiv_int (by omega) ?_ (Or.inl (PyProof.noPylong_small (by omega))))) | (goal_has setItem; ((fail_if_success (fail_if_success (with_reducible show wpAny _ _ (setItem (Value.ref _) (Value.ref _) (Value.ref _)) _ _ _))); k_dflt (refine' Mine.set_slice_ints (by k_asm) (by k_asm) (by exact IsPart.int _ _) (by exact IsPart.int _ _) (by (intro zqo'; k_upd)) (by k_mem) (by first | decide | omega) (by first | decide | omega) (by k_ne) (by assumption) (by first | assumption | exact IntsAre.nil) (by first | assumption | exact rfl) (by first | assumption | exact rfl) (by omega) ?_); intro zqh' zqws' zqzs' zqn' zqhzs' zqhzl' zqhzi' zqF' zqN'; (try dsimp only at zqN'); (try k_sweep))) | (goal_has pyIter; ((fail_if_success (fail_if_success (with_reducible show wpAny _ _ (pyIter (Value.ref _)) (fun it s₂ => LoopAtV _ _ _ _ _ _ _ _ _ it s₂) _ _))); k_dflt (refine' Mine.iter_nil (by exact rfl) (by k_asm) (by k_asm) (by k_mem) ?_); intro zqh' zqtk' zqF' zqN'; (try k_sweep))) | (goal_has call; (fail_if_success (fail_if_success (with_reducible show wpAny _ _ (call (Value.ref _) _ _) _ _ _))); first | ((fail_if_success (fail_if_success (with_reducible show wpAny _ _ (call (Value.ref (639 : Nat)) [Value.ref _, Value.int _ _, Value.ref _]) _ _ _))); k_dflt (refine' Mine.ins_core (by k_asm) (by k_asm) (by k_asm) (by k_asm) (by k_asm) (by k_mem) (by k_mem) (by k_mem) (by k_mem) (by k_mem) (by assumption) (by assumption) (by k_mem) (by k_mem) (by assumption) (by first | assumption | omega) (by assumption) (by assumption) (by k_all) (by k_all) (by k_all) (by k_ne) (by k_ne) (by k_ne) (by ktr_room) (by ktr_units) ?_); intro zqh' zqtk' zqws' zqzz' zqpad' zqT1' zqT2' zqn' zqgs' zqge' zqzv' zqtk9' zqck' zqhzz' zqhzL' zqhzi' zqhgs' zqhge' zqhzv' zqhtk' zqF' zqN'; (try k_sweep); (try dsimp only); (try ((fail_if_success (fail_if_success k_fold)); (with_reducible refine Mine.wp_fold ?_); intro zqq zqe))) | ((fail_if_success (fail_if_success (with_reducible show wpAny _ _ (call (Value.ref (435 : Nat)) [Value.int _ _, Value.str _ _]) _ _ _))); k_dflt (refine' Mine.buf_ok (by k_asm) (by k_asm) (by k_asm) (by k_asm) (by k_asm) (by ktr_room) (by ktr_units) ?_); intro zqh' zqtk' zqb' zqbd' zqg' zqgp' zqce' zqmk' zqmkd' zqrd' zqli' zqtr' zqnce' zqnli' zqro' zqzs' zqz0' zqT1' zqT2' zql1 zql3 zql4 zql2 zqlo' zqhd' zqhz' zqhz8' zqF' zqN'; (obtain ⟨lu1, lu2, lu3, lu4, lu5, lu6, lu7, lu8⟩ := Mine.lts_chain8 zql1 zql2); (try dsimp +zetaDelta only [List.map] at lu1 lu2 lu3 lu4 lu5 lu6 lu7 lu8); (try k_lt zql1); (try k_lt zql3); (try k_lt zql4); (try k_sweep); (try dsimp only); (try ((fail_if_success (fail_if_success k_fold)); (with_reducible refine Mine.wp_fold ?_); intro zqq zqe))) | ((fail_if_success (fail_if_success (with_reducible show wpAny _ _ (call (Value.ref (853 : Nat)) [Value.ref _, Value.int _ _, Value.int _ _]) _ _ _))); k_dflt (refine' Mine.narrow_ok (by k_asm) (by k_asm) (by k_asm) (by k_asm) (by k_asm) (by k_mem) (by k_ne) (by (intro zqo'; k_upd)) (by k_mem) (by k_ne) (by k_mem) (by k_ne) (by k_mem) (by k_ne) (by assumption) (by assumption) (by assumption) (by assumption) (by assumption) (by omega) (by omega) (by omega) (by omega) (by ktr_room) (by ktr_units) ?_); intro zqh' zqtk' zqT1' zqpt' zqbv' zqzv' zqhbv1' zqhbv2' zqhbv3' zqF' zqN'; (try dsimp only at zqN'); (try k_sweep); (try dsimp only); (try ((fail_if_success (fail_if_success k_fold)); (with_reducible refine Mine.wp_fold ?_); intro zqq zqe))) | ((fail_if_success (fail_if_success (with_reducible show wpAny _ _ (call (Value.ref (425 : Nat)) [Value.ref _, Value.bool false]) _ _ _))); k_dflt (refine' Mine.mod_ok (by k_asm) (by k_asm) (by k_asm) (by k_asm) (by k_asm) (by k_mem) (by k_ne) (by (intro zqo'; k_upd)) (by ktr_room) (by ktr_units) ?_); intro zqh' zqtk' zqT1' zqsv' zqF' zqN'; (try dsimp only at zqN'); (try k_sweep); (try dsimp only); (try ((fail_if_success (fail_if_success k_fold)); (with_reducible refine Mine.wp_fold ?_); intro zqq zqe))) | ((fail_if_success (fail_if_success (with_reducible show wpAny _ _ (call (Value.ref (1027 : Nat)) [Value.ref _, Value.int _ _]) _ _ _))); k_dflt (refine' Mine.draw_ok (by k_asm) (by k_asm) (by k_asm) (by k_asm) (by k_asm) (by first | exact rfl | assumption) (by (intro zqo'; k_upd)) (by (intro zqo₁ zqo'; k_upd)) (by l_ints) (by first | assumption | omega) (by first | decide | omega) (by first | decide | omega) (by ktr_room) (by ktr_units) ?_); intro zqr' zqt' zqh' zqtk' zqvs' zqns' zqk' zqtk2' zqn' zqnc' zqhr0' zqhr1' zqhi' zqhl' zqF' zqN'; (try dsimp only at zqN'); (try k_sweep); (try dsimp only); (try ((fail_if_success (fail_if_success k_fold)); (with_reducible refine Mine.wp_fold ?_); intro zqq zqe))) | (k_dflt (first | (refine' call_cls0 (by k_asm) (by k_asm) (by k_asm) (by k_is) (by k_is) ?_; k_whole; intro zqx zqd zqh zqF zqN zql1 zql2; (try ((have zqU := Mine.lts_up zql1 zql2); (dsimp +zetaDelta only [List.map] at zqU))); (try k_lt zql1); (try k_lt2 zql2); (try k_sweep)) | ((first | (refine' call_cls (by k_asm) (by k_asm) (by k_asm) (by k_is) (by k_is) (by k_is) ?_; k_whole; intro zqx zqd zqh zqF zqN zql1 zql2; (try ((have zqU := Mine.lts_up zql1 zql2); (dsimp +zetaDelta only [List.map] at zqU))); (try k_lt zql1); (try k_lt2 zql2); (try k_sweep)) | (refine' Mine.call_fn (by k_asm) (by k_is) ?_; k_whole) | (refine' call_meth (by k_asm) (by k_mem) ?_; k_whole) | refine wpAny_call ?_); (first | (refine' code_defL (by exact rfl) (by exact rfl) (by first | exact rfl | assumption) (by k_asm) (by k_asm) (by k_asm) (by k_asm) (by k_asm) (by k_is) (by k_is) (by decide) (by ktr_room) (by first | exact BindsTo.of_eq rfl | exact binds_K (by k_in) rfl (by k_is) rfl rfl rfl) (by exact locs rfl) (by exact rfl) (by exact rfl) (by exact rfl) ?_; k_whole; intro zqg zqL zqh zqtk zqFG zqF zqN zqB zqX zqT zqe zqA; (try k_lift zqB); (try ((fail_if_success (fail_if_success k_fold)); (with_reducible refine Mine.wp_fold ?_); intro zqq zqe))) | (refine' code_defCL (by exact rfl) (by exact rfl) (by exact rfl) (by k_asm) (by k_asm) (by k_asm) (by k_asm) (by k_asm) (by k_is) (by k_is) (by ktr_room) (by first | exact BindsTo.of_eq rfl | exact binds_K (by k_in) rfl (by k_is) rfl rfl rfl) (by exact rfl) (by decide +kernel) (by exact rfl) (by exact rfl) (by exact rfl) ?_; k_whole; intro zqg zqL zqh zqtk zqcells zqFG zqF zqN zqY zqB zqX zqT zql1 zqe zqA; (try k_lt zql1); k_cells zqY; (try simp only [List.cons_append, List.nil_append] at zqN); (try dsimp only); (try k_lift zqB); (try ((fail_if_success (fail_if_success k_fold)); (with_reducible refine Mine.wp_fold ?_); intro zqq zqe)))))))) | walk1 | (dsimp only; walk1) | ((with_reducible show wpAny _ _ _ _ _ _); dsimp only) | (leave1; walk_say "STEP leave1"; (first | (with_reducible refine (?_ : wpAny _ _ _ _ _ _)) | try dsimp only))))
    refine' ⟨_, _, _, _, _, _, _, _, rfl, ?ci, ?cl, ?co, ?cF, ?cN⟩
    (case cF => k_asm)
    (case cN => exact cb_drop (by assumption) (by kcj_all))
    (case ci => assumption)
    (case cl => assumption)
    (case co => (refine' ⟨_, _, rfl, ?_⟩; rename _ < (5 : Int) => h5; rename (0 : Int) ≤ _ => h0; exact code_menu h0 h5))
  case fin =>
    intro ys' vs' ns' k' tk2' n' nc' hyl' hok' hi' hl'
    obtain ⟨ks, hik, hok⟩ := ints_of_ok hok'
    have hkl := hik.length
    intro D' h' tk' F' N' off1'
    (try (dsimp only at *)); (try (simp only [LCg.Off1, and_true] at off1')); (try ((fail_if_success (fail_if_success k_fold)); (with_reducible refine Mine.wp_fold ?_); intro zqq zqe))
    repeat' ((fail_if_success (with_reducible show wpAny _ _ (exec (PySem.Stmt.If _ _ _ _) _) _ _ _)); ((first | ((fail_if_success (fail_if_success k_unfold)); (first | (with_reducible refine (?_ : wpAny _ _ _ _ _ _)) | (k_unfold; (try dsimp only)))) | ((fail_if_success (fail_if_success k_fold)); (first | (goal_has PySem.exec; (fail_if_success (fail_if_success (with_reducible show wpAny _ _ (exec _ _) _ _ _)))) | (goal_has PySem.Expr.BoolOp; (fail_if_success (fail_if_success (with_reducible show wpAny _ _ (eval (PySem.Expr.BoolOp _ _ _) _) _ _ _)))) | (goal_has PySem.Expr.Call; (fail_if_success (fail_if_success (with_reducible show wpAny _ _ (eval (PySem.Expr.Call _ _ _ _) _) _ _ _)))) | (goal_has PySem.Expr.Compare; (fail_if_success (fail_if_success (with_reducible show wpAny _ _ (eval (PySem.Expr.Compare _ _ _ _) _) _ _ _))))); (with_reducible refine Mine.wp_fold ?_); intro zqq zqe) | (goal_has PySem.Shared.mk; (with_reducible refine Mine.st_let ?_); intro zqs; goal_lacks PySem.Shared.mk) | ((ctx_mentions ite List.lookup); (rename Fr _ _ _ _ => zqF9); revert zqF9; (goal_has ite List.lookup); (with_reducible refine Mine.fr_let ?_); intro zqm; goal_lacks ite List.lookup; intro zqF) | ((ctx_mentions List.cons HAppend.hAppend List.append); (rename News _ _ _ _ => zqN9); (fail_if_success (fail_if_success (conv at zqN9 => arg 4; arg 2))); (with_reducible refine Mine.news_let zqN9 ?_); intro zql zqN; clear zqN9) | (k_end; wrow_close) | (goal_has subscriptTail; first | ((fail_if_success (fail_if_success (with_reducible show wpAny _ _ (subscriptTail _ _ (Value.ref _) (Value.int _ _)) _ _ _))); k_dflt (refine' Mine.pick_two (by k_asm) (by k_mem) (by omega) (by omega) ?_); intro zqz' zqt' zqhz') | ((fail_if_success (fail_if_success (with_reducible show wpAny _ _ (subscriptTail _ _ (Value.ref _) (Value.int _ _)) _ _ _))); k_dflt (refine' Mine.item_ints (by k_asm) (by k_mem) (by assumption) (by omega) (by omega) (by omega) ?_); intro zqx' zqt' zqhx') | ((fail_if_success (fail_if_success (with_reducible show wpAny _ _ (subscriptTail _ (PySem.Expr.Slice _ _ none _) (Value.ref _) (Value.ref _)) _ _ _))); k_dflt (refine' Mine.cut_slice (by k_asm) (by k_asm) (by k_mem) (by exact IsPart.int _ _) (by exact IsPart.int _ _) (by first | decide | omega) (by first | decide | omega) (by assumption) (by first | assumption | exact rfl) (by omega) ?_ (by with_unfolding_all rfl) (by kmk_pure)); intro zqD' zqh' zqws' zqzs' zqhzs' zqhzl' zqhzi' zqF' zqN' zql1; (try k_lt zql1); (try k_sweep))) | (goal_has LCg.CompSrc; ((fail_if_success (fail_if_success (with_reducible show LCg.CompSrc _ _ _ _ _ _ _ _ _ _ _ _ _ _))); k_dflt (refine' LCg.CompSrc.range (by exact rfl) (by k_asm) (by k_asm) (by assumption) (by exact small_one (by omega) (by omega) (by omega) (by omega)) (by exact rangeSize_nat _ _) (by ((rw [PySem.sizeLine_eq]); omega)) ?_); intro zqg'; k_dflt (refine' Mine.comp_deck Mine.OkCode (by (intro zqo'; k_upd)) (by (intro zqo₁ zqo'; k_upd)) (by l_ints) (by assumption) (fun v' I' oI' C' oC' D' m' ys' h' tk' E' vs' ns' k' tk2' n' nc' hi' hl' hC' hx' F' N' off' ne' => ?_) (fun ys' vs' ns' k' tk2' n' nc' hyl' hok' hi' hl' => ?_)); (all_goals (try (dsimp only at *))); (all_goals (try (simp only [LCg.Off3, and_true] at off'))); (all_goals (try ((fail_if_success (fail_if_success k_fold)); (with_reducible refine Mine.wp_fold ?_); intro zqq zqe))))) | (goal_has PySem.Value.builtin; first | ((fail_if_success (fail_if_success (with_reducible show wpAny _ _ (call (Value.builtin "sorted") [Value.ref _]) _ _ _))); k_dflt (refine' Mine.sorted_nil (by exact rfl) (by k_asm) (by k_asm) (by k_mem) (by k_asm) (by k_asm) ?_); intro zqD' zqn' zqh' zqtk' zqF' zqN' zql1; (try k_lt zql1); (try k_sweep)) | ((fail_if_success (fail_if_success (with_reducible show wpAny _ _ (call (Value.builtin "len") [Value.ref _]) _ _ _))); k_dflt (refine' kst_len (by k_asm) (by k_mem) (by exact IntsAre.length (by assumption)) (by omega) ?_; k_whole)) | ((fail_if_success (fail_if_success (with_reducible show wpAny _ _ (call (Value.builtin _) [Value.ref _, Value.int _ _]) _ _ _))); k_dflt (refine' Mine.pop0 (by k_asm) (by k_asm) (by k_upd) (by ((simp only [List.length_cons, sizeLine_eq]); omega)) ?_; k_whole); intro zqh' zqF' zqN'; (try k_sweep))) | (goal_has binaryOp; first | ((fail_if_success (fail_if_success (with_reducible show wpAny _ _ (binaryOp Operator.Mult (Value.ref _) (Value.int _ _)) _ _ _))); k_dflt (refine' Mine.rep_list (by k_asm) (by k_asm) (by k_mem) (by first | decide | omega) (by first | decide | omega) ?_); intro zqD' zqh' zqws' zqzs' zqhzs' zqhzl' zqhzi' zqF' zqN' zql1; (try k_lt zql1); (try k_sweep)) | ((fail_if_success (fail_if_success (with_reducible show wpAny _ _ (binaryOp Operator.FloorDiv (Value.int _ _) (Value.int _ _)) _ _ _))); refine floordiv_int (by omega) ?_ (Or.inl (PyProof.noPylong_small (by omega))))) | (goal_has setItem; ((fail_if_success (fail_if_success (with_reducible show wpAny _ _ (setItem (Value.ref _) (Value.ref _) (Value.ref _)) _ _ _))); k_dflt (refine' Mine.set_slice_ints (by k_asm) (by k_asm) (by exact IsPart.int _ _) (by exact IsPart.int _ _) (by (intro zqo'; k_upd)) (by k_mem) (by first | decide | omega) (by first | decide | omega) (by k_ne) (by assumption) (by first | assumption | exact IntsAre.nil) (by first | assumption | exact rfl) (by first | assumption | exact rfl) (by omega) ?_); intro zqh' zqws' zqzs' zqn' zqhzs' zqhzl' zqhzi' zqF' zqN'; (try dsimp only at zqN'); (try k_sweep))) | (goal_has pyIter; ((fail_if_success (fail_if_success (with_reducible show wpAny _ _ (pyIter (Value.ref _)) (fun it s₂ => LoopAtV _ _ _ _ _ _ _ _ _ it s₂) _ _))); k_dflt (refine' Mine.iter_nil (by exact rfl) (by k_asm) (by k_asm) (by k_mem) ?_); intro zqh' zqtk' zqF' zqN'; (try k_sweep))) | (goal_has call; (fail_if_success (fail_if_success (with_reducible show wpAny _ _ (call (Value.ref _) _ _) _ _ _))); first | ((fail_if_success (fail_if_success (with_reducible show wpAny _ _ (call (Value.ref (639 : Nat)) [Value.ref _, Value.int _ _, Value.ref _]) _ _ _))); k_dflt (refine' Mine.ins_core (by k_asm) (by k_asm) (by k_asm) (by k_asm) (by k_asm) (by k_mem) (by k_mem) (by k_mem) (by k_mem) (by k_mem) (by assumption) (by assumption) (by k_mem) (by k_mem) (by assumption) (by first | assumption | omega) (by assumption) (by assumption) (by k_all) (by k_all) (by k_all) (by k_ne) (by k_ne) (by k_ne) (by ktr_room) (by ktr_units) ?_); intro zqh' zqtk' zqws' zqzz' zqpad' zqT1' zqT2' zqn' zqgs' zqge' zqzv' zqtk9' zqck' zqhzz' zqhzL' zqhzi' zqhgs' zqhge' zqhzv' zqhtk' zqF' zqN'; (try k_sweep); (try dsimp only); (try ((fail_if_success (fail_if_success k_fold)); (with_reducible refine Mine.wp_fold ?_); intro zqq zqe))) | ((fail_if_success (fail_if_success (with_reducible show wpAny _ _ (call (Value.ref (435 : Nat)) [Value.int _ _, Value.str _ _]) _ _ _))); k_dflt (refine' Mine.buf_ok (by k_asm) (by k_asm) (by k_asm) (by k_asm) (by k_asm) (by ktr_room) (by ktr_units) ?_); intro zqh' zqtk' zqb' zqbd' zqg' zqgp' zqce' zqmk' zqmkd' zqrd' zqli' zqtr' zqnce' zqnli' zqro' zqzs' zqz0' zqT1' zqT2' zql1 zql3 zql4 zql2 zqlo' zqhd' zqhz' zqhz8' zqF' zqN'; (obtain ⟨lu1, lu2, lu3, lu4, lu5, lu6, lu7, lu8⟩ := Mine.lts_chain8 zql1 zql2); (try dsimp +zetaDelta only [List.map] at lu1 lu2 lu3 lu4 lu5 lu6 lu7 lu8); (try k_lt zql1); (try k_lt zql3); (try k_lt zql4); (try k_sweep); (try dsimp only); (try ((fail_if_success (fail_if_success k_fold)); (with_reducible refine Mine.wp_fold ?_); intro zqq zqe))) | ((fail_if_success (fail_if_success (with_reducible show wpAny _ _ (call (Value.ref (853 : Nat)) [Value.ref _, Value.int _ _, Value.int _ _]) _ _ _))); k_dflt (refine' Mine.narrow_ok (by k_asm) (by k_asm) (by k_asm) (by k_asm) (by k_asm) (by k_mem) (by k_ne) (by (intro zqo'; k_upd)) (by k_mem) (by k_ne) (by k_mem) (by k_ne) (by k_mem) (by k_ne) (by assumption) (by assumption) (by assumption) (by assumption) (by assumption) (by omega) (by omega) (by omega) (by omega) (by ktr_room) (by ktr_units) ?_); intro zqh' zqtk' zqT1' zqpt' zqbv' zqzv' zqhbv1' zqhbv2' zqhbv3' zqF' zqN'; (try dsimp only at zqN'); (try k_sweep); (try dsimp only); (try ((fail_if_success (fail_if_success k_fold)); (with_reducible refine Mine.wp_fold ?_); intro zqq zqe))) | ((fail_if_success (fail_if_success (with_reducible show wpAny _ _ (call (Value.ref (425 : Nat)) [Value.ref _, Value.bool false]) _ _ _))); k_dflt (refine' Mine.mod_ok (by k_asm) (by k_asm) (by k_asm) (by k_asm) (by k_asm) (by k_mem) (by k_ne) (by (intro zqo'; k_upd)) (by ktr_room) (by ktr_units) ?_); intro zqh' zqtk' zqT1' zqsv' zqF' zqN'; (try dsimp only at zqN'); (try k_sweep); (try dsimp only); (try ((fail_if_success (fail_if_success k_fold)); (with_reducible refine Mine.wp_fold ?_); intro zqq zqe))) | ((fail_if_success (fail_if_success (with_reducible show wpAny _ _ (call (Value.ref (1027 : Nat)) [Value.ref _, Value.int _ _]) _ _ _))); k_dflt (refine' Mine.draw_ok (by k_asm) (by k_asm) (by k_asm) (by k_asm) (by k_asm) (by first | exact rfl | assumption) (by (intro zqo'; k_upd)) (by (intro zqo₁ zqo'; k_upd)) (by l_ints) (by first | assumption | omega) (by first | decide | omega) (by first | decide | omega) (by ktr_room) (by ktr_units) ?_); intro zqr' zqt' zqh' zqtk' zqvs' zqns' zqk' zqtk2' zqn' zqnc' zqhr0' zqhr1' zqhi' zqhl' zqF' zqN'; (try dsimp only at zqN'); (try k_sweep); (try dsimp only); (try ((fail_if_success (fail_if_success k_fold)); (with_reducible refine Mine.wp_fold ?_); intro zqq zqe))) | (k_dflt (first | (refine' call_cls0 (by k_asm) (by k_asm) (by k_asm) (by k_is) (by k_is) ?_; k_whole; intro zqx zqd zqh zqF zqN zql1 zql2; (try ((have zqU := Mine.lts_up zql1 zql2); (dsimp +zetaDelta only [List.map] at zqU))); (try k_lt zql1); (try k_lt2 zql2); (try k_sweep)) | ((first | (refine' call_cls (by k_asm) (by k_asm) (by k_asm) (by k_is) (by k_is) (by k_is) ?_; k_whole; intro zqx zqd zqh zqF zqN zql1 zql2; (try ((have zqU := Mine.lts_up zql1 zql2); (dsimp +zetaDelta only [List.map] at zqU))); (try k_lt zql1); (try k_lt2 zql2); (try k_sweep)) | (refine' Mine.call_fn (by k_asm) (by k_is) ?_; k_whole) | (refine' call_meth (by k_asm) (by k_mem) ?_; k_whole) | refine wpAny_call ?_); (first | (refine' code_defL (by exact rfl) (by exact rfl) (by first | exact rfl | assumption) (by k_asm) (by k_asm) (by k_asm) (by k_asm) (by k_asm) (by k_is) (by k_is) (by decide) (by ktr_room) (by first | exact BindsTo.of_eq rfl | exact binds_K (by k_in) rfl (by k_is) rfl rfl rfl) (by exact locs rfl) (by exact rfl) (by exact rfl) (by exact rfl) ?_; k_whole; intro zqg zqL zqh zqtk zqFG zqF zqN zqB zqX zqT zqe zqA; (try k_lift zqB); (try ((fail_if_success (fail_if_success k_fold)); (with_reducible refine Mine.wp_fold ?_); intro zqq zqe))) | (refine' code_defCL (by exact rfl) (by exact rfl) (by exact rfl) (by k_asm) (by k_asm) (by k_asm) (by k_asm) (by k_asm) (by k_is) (by k_is) (by ktr_room) (by first | exact BindsTo.of_eq rfl | exact binds_K (by k_in) rfl (by k_is) rfl rfl rfl) (by exact rfl) (by decide +kernel) (by exact rfl) (by exact rfl) (by exact rfl) ?_; k_whole; intro zqg zqL zqh zqtk zqcells zqFG zqF zqN zqY zqB zqX zqT zql1 zqe zqA; (try k_lt zql1); k_cells zqY; (try simp only [List.cons_append, List.nil_append] at zqN); (try dsimp only); (try k_lift zqB); (try ((fail_if_success (fail_if_success k_fold)); (with_reducible refine Mine.wp_fold ?_); intro zqq zqe)))))))) | walk1 | (dsimp only; walk1) | ((with_reducible show wpAny _ _ _ _ _ _); dsimp only) | (leave1; walk_say "STEP leave1"; (first | (with_reducible refine (?_ : wpAny _ _ _ _ _ _)) | try dsimp only)))))
    all_goals first | exact (Value.none : Value) | exact (Str.ofString "" : Str) | exact ((0 : Nat) : Addr) | skip
    rename Fr _ _ _ _ => F9
    rename News _ _ _ _ => N9
    obtain ⟨own9, N8, m1, m2, m3, m4, m5, m6, o1, o2, o3⟩ := lb_hide N9 (by k_ne) (by k_ne) (by k_ne) (by k_ne) (by k_ne) (by k_ne) (by k_ne) (by k_ne) (by k_ne) (by k_ne) (by k_ne) (by k_ne) (by k_ne) (by k_ne) (by k_ne) (by k_ne) (by k_ne) (by k_ne) hoffd hoffc
      (fun q hq => Nat.ne_of_lt (kst_ltOf (And.right (And.right (And.right (And.right (And.right (by assumption)))))) q hq))
    have e1 := o3 _ m1
    have e2 := o3 _ m2
    have e3 := o3 _ m3
    have e4 := o3 _ m4
    dsimp only at e1 e2 e3 e4
    clear N9
    refine' exec_join (NowF F9 s (ledB N8) (jB (ks.length : Int))) ?w1 ?w2
    case w1 =>
      repeat' ((first | ((fail_if_success (fail_if_success k_unfold)); (first | (with_reducible refine (?_ : wpAny _ _ _ _ _ _)) | (k_unfold; (try dsimp only)))) | ((fail_if_success (fail_if_success k_fold)); (first | (goal_has PySem.exec; (fail_if_success (fail_if_success (with_reducible show wpAny _ _ (exec _ _) _ _ _)))) | (goal_has PySem.Expr.BoolOp; (fail_if_success (fail_if_success (with_reducible show wpAny _ _ (eval (PySem.Expr.BoolOp _ _ _) _) _ _ _)))) | (goal_has PySem.Expr.Call; (fail_if_success (fail_if_success (with_reducible show wpAny _ _ (eval (PySem.Expr.Call _ _ _ _) _) _ _ _)))) | (goal_has PySem.Expr.Compare; (fail_if_success (fail_if_success (with_reducible show wpAny _ _ (eval (PySem.Expr.Compare _ _ _ _) _) _ _ _))))); (with_reducible refine Mine.wp_fold ?_); intro zqq zqe) | (goal_has PySem.Shared.mk; (with_reducible refine Mine.st_let ?_); intro zqs; goal_lacks PySem.Shared.mk) | ((ctx_mentions ite List.lookup); (rename Fr _ _ _ _ => zqF9); revert zqF9; (goal_has ite List.lookup); (with_reducible refine Mine.fr_let ?_); intro zqm; goal_lacks ite List.lookup; intro zqF) | ((ctx_mentions List.cons HAppend.hAppend List.append); (rename News _ _ _ _ => zqN9); (fail_if_success (fail_if_success (conv at zqN9 => arg 4; arg 2))); (with_reducible refine Mine.news_let zqN9 ?_); intro zql zqN; clear zqN9) | (k_end; wrow_close) | (goal_has subscriptTail; first | ((fail_if_success (fail_if_success (with_reducible show wpAny _ _ (subscriptTail _ _ (Value.ref _) (Value.int _ _)) _ _ _))); k_dflt (refine' Mine.pick_two (by k_asm) (by k_mem) (by omega) (by omega) ?_); intro zqz' zqt' zqhz') | ((fail_if_success (fail_if_success (with_reducible show wpAny _ _ (subscriptTail _ _ (Value.ref _) (Value.int _ _)) _ _ _))); k_dflt (refine' Mine.item_ints (by k_asm) (by k_mem) (by assumption) (by omega) (by omega) (by omega) ?_); intro zqx' zqt' zqhx') | ((fail_if_success (fail_if_success (with_reducible show wpAny _ _ (subscriptTail _ (PySem.Expr.Slice _ _ none _) (Value.ref _) (Value.ref _)) _ _ _))); k_dflt (refine' Mine.cut_slice (by k_asm) (by k_asm) (by k_mem) (by exact IsPart.int _ _) (by exact IsPart.int _ _) (by first | decide | omega) (by first | decide | omega) (by assumption) (by first | assumption | exact rfl) (by omega) ?_ (by with_unfolding_all rfl) (by kmk_pure)); intro zqD' zqh' zqws' zqzs' zqhzs' zqhzl' zqhzi' zqF' zqN' zql1; (try k_lt zql1); (try k_sweep))) | (goal_has LCg.CompSrc; ((fail_if_success (fail_if_success (with_reducible show LCg.CompSrc _ _ _ _ _ _ _ _ _ _ _ _ _ _))); k_dflt (refine' LCg.CompSrc.range (by exact rfl) (by k_asm) (by k_asm) (by assumption) (by exact small_one (by omega) (by omega) (by omega) (by omega)) (by exact rangeSize_nat _ _) (by ((rw [PySem.sizeLine_eq]); omega)) ?_); intro zqg'; k_dflt (refine' Mine.comp_deck Mine.OkCode (by (intro zqo'; k_upd)) (by (intro zqo₁ zqo'; k_upd)) (by l_ints) (by assumption) (fun v' I' oI' C' oC' D' m' ys' h' tk' E' vs' ns' k' tk2' n' nc' hi' hl' hC' hx' F' N' off' ne' => ?_) (fun ys' vs' ns' k' tk2' n' nc' hyl' hok' hi' hl' => ?_)); (all_goals (try (dsimp only at *))); (all_goals (try (simp only [LCg.Off3, and_true] at off'))); (all_goals (try ((fail_if_success (fail_if_success k_fold)); (with_reducible refine Mine.wp_fold ?_); intro zqq zqe))))) | (goal_has PySem.Value.builtin; first | ((fail_if_success (fail_if_success (with_reducible show wpAny _ _ (call (Value.builtin "sorted") [Value.ref _]) _ _ _))); k_dflt (refine' Mine.sorted_nil (by exact rfl) (by k_asm) (by k_asm) (by k_mem) (by k_asm) (by k_asm) ?_); intro zqD' zqn' zqh' zqtk' zqF' zqN' zql1; (try k_lt zql1); (try k_sweep)) | ((fail_if_success (fail_if_success (with_reducible show wpAny _ _ (call (Value.builtin "len") [Value.ref _]) _ _ _))); k_dflt (refine' kst_len (by k_asm) (by k_mem) (by exact IntsAre.length (by assumption)) (by omega) ?_; k_whole)) | ((fail_if_success (fail_if_success (with_reducible show wpAny _ _ (call (Value.builtin _) [Value.ref _, Value.int _ _]) _ _ _))); k_dflt (refine' Mine.pop0 (by k_asm) (by k_asm) (by k_upd) (by ((simp only [List.length_cons, sizeLine_eq]); omega)) ?_; k_whole); intro zqh' zqF' zqN'; (try k_sweep))) | (goal_has binaryOp; first | ((fail_if_success (fail_if_success (with_reducible show wpAny _ _ (binaryOp Operator.Mult (Value.ref _) (Value.int _ _)) _ _ _))); k_dflt (refine' Mine.rep_list (by k_asm) (by k_asm) (by k_mem) (by first | decide | omega) (by first | decide | omega) ?_); intro zqD' zqh' zqws' zqzs' zqhzs' zqhzl' zqhzi' zqF' zqN' zql1; (try k_lt zql1); (try k_sweep)) | ((fail_if_success (fail_if_success (with_reducible show wpAny _ _ (binaryOp Operator.FloorDiv (Value.int _ _) (Value.int _ _)) _ _ _))); refine floordiv_int (by omega) ?_ (Or.inl (PyProof.noPylong_small (by omega))))) | (goal_has setItem; ((fail_if_success (fail_if_success (with_reducible show wpAny _ _ (setItem (Value.ref _) (Value.ref _) (Value.ref _)) _ _ _))); k_dflt (refine' Mine.set_slice_ints (by k_asm) (by k_asm) (by exact IsPart.int _ _) (by exact IsPart.int _ _) (by (intro zqo'; k_upd)) (by k_mem) (by first | decide | omega) (by first | decide | omega) (by k_ne) (by assumption) (by first | assumption | exact IntsAre.nil) (by first | assumption | exact rfl) (by first | assumption | exact rfl) (by omega) ?_); intro zqh' zqws' zqzs' zqn' zqhzs' zqhzl' zqhzi' zqF' zqN'; (try dsimp only at zqN'); (try k_sweep))) | (goal_has pyIter; ((fail_if_success (fail_if_success (with_reducible show wpAny _ _ (pyIter (Value.ref _)) (fun it s₂ => LoopAtV _ _ _ _ _ _ _ _ _ it s₂) _ _))); k_dflt (refine' Mine.iter_nil (by exact rfl) (by k_asm) (by k_asm) (by k_mem) ?_); intro zqh' zqtk' zqF' zqN'; (try k_sweep))) | (goal_has call; (fail_if_success (fail_if_success (with_reducible show wpAny _ _ (call (Value.ref _) _ _) _ _ _))); first | ((fail_if_success (fail_if_success (with_reducible show wpAny _ _ (call (Value.ref (639 : Nat)) [Value.ref _, Value.int _ _, Value.ref _]) _ _ _))); k_dflt (refine' Mine.ins_core (by k_asm) (by k_asm) (by k_asm) (by k_asm) (by k_asm) (by k_mem) (by k_mem) (by k_mem) (by k_mem) (by k_mem) (by assumption) (by assumption) (by k_mem) (by k_mem) (by assumption) (by first | assumption | omega) (by assumption) (by assumption) (by k_all) (by k_all) (by k_all) (by k_ne) (by k_ne) (by k_ne) (by ktr_room) (by ktr_units) ?_); intro zqh' zqtk' zqws' zqzz' zqpad' zqT1' zqT2' zqn' zqgs' zqge' zqzv' zqtk9' zqck' zqhzz' zqhzL' zqhzi' zqhgs' zqhge' zqhzv' zqhtk' zqF' zqN'; (try k_sweep); (try dsimp only); (try ((fail_if_success (fail_if_success k_fold)); (with_reducible refine Mine.wp_fold ?_); intro zqq zqe))) | ((fail_if_success (fail_if_success (with_reducible show wpAny _ _ (call (Value.ref (435 : Nat)) [Value.int _ _, Value.str _ _]) _ _ _))); k_dflt (refine' Mine.buf_ok (by k_asm) (by k_asm) (by k_asm) (by k_asm) (by k_asm) (by ktr_room) (by ktr_units) ?_); intro zqh' zqtk' zqb' zqbd' zqg' zqgp' zqce' zqmk' zqmkd' zqrd' zqli' zqtr' zqnce' zqnli' zqro' zqzs' zqz0' zqT1' zqT2' zql1 zql3 zql4 zql2 zqlo' zqhd' zqhz' zqhz8' zqF' zqN'; (obtain ⟨lu1, lu2, lu3, lu4, lu5, lu6, lu7, lu8⟩ := Mine.lts_chain8 zql1 zql2); (try dsimp +zetaDelta only [List.map] at lu1 lu2 lu3 lu4 lu5 lu6 lu7 lu8); (try k_lt zql1); (try k_lt zql3); (try k_lt zql4); (try k_sweep); (try dsimp only); (try ((fail_if_success (fail_if_success k_fold)); (with_reducible refine Mine.wp_fold ?_); intro zqq zqe))) | ((fail_if_success (fail_if_success (with_reducible show wpAny _ _ (call (Value.ref (853 : Nat)) [Value.ref _, Value.int _ _, Value.int _ _]) _ _ _))); k_dflt (refine' Mine.narrow_ok (by k_asm) (by k_asm) (by k_asm) (by k_asm) (by k_asm) (by k_mem) (by k_ne) (by (intro zqo'; k_upd)) (by k_mem) (by k_ne) (by k_mem) (by k_ne) (by k_mem) (by k_ne) (by assumption) (by assumption) (by assumption) (by assumption) (by assumption) (by omega) (by omega) (by omega) (by omega) (by ktr_room) (by ktr_units) ?_); intro zqh' zqtk' zqT1' zqpt' zqbv' zqzv' zqhbv1' zqhbv2' zqhbv3' zqF' zqN'; (try dsimp only at zqN'); (try k_sweep); (try dsimp only); (try ((fail_if_success (fail_if_success k_fold)); (with_reducible refine Mine.wp_fold ?_); intro zqq zqe))) | ((fail_if_success (fail_if_success (with_reducible show wpAny _ _ (call (Value.ref (425 : Nat)) [Value.ref _, Value.bool false]) _ _ _))); k_dflt (refine' Mine.mod_ok (by k_asm) (by k_asm) (by k_asm) (by k_asm) (by k_asm) (by k_mem) (by k_ne) (by (intro zqo'; k_upd)) (by ktr_room) (by ktr_units) ?_); intro zqh' zqtk' zqT1' zqsv' zqF' zqN'; (try dsimp only at zqN'); (try k_sweep); (try dsimp only); (try ((fail_if_success (fail_if_success k_fold)); (with_reducible refine Mine.wp_fold ?_); intro zqq zqe))) | ((fail_if_success (fail_if_success (with_reducible show wpAny _ _ (call (Value.ref (1027 : Nat)) [Value.ref _, Value.int _ _]) _ _ _))); k_dflt (refine' Mine.draw_ok (by k_asm) (by k_asm) (by k_asm) (by k_asm) (by k_asm) (by first | exact rfl | assumption) (by (intro zqo'; k_upd)) (by (intro zqo₁ zqo'; k_upd)) (by l_ints) (by first | assumption | omega) (by first | decide | omega) (by first | decide | omega) (by ktr_room) (by ktr_units) ?_); intro zqr' zqt' zqh' zqtk' zqvs' zqns' zqk' zqtk2' zqn' zqnc' zqhr0' zqhr1' zqhi' zqhl' zqF' zqN'; (try dsimp only at zqN'); (try k_sweep); (try dsimp only); (try ((fail_if_success (fail_if_success k_fold)); (with_reducible refine Mine.wp_fold ?_); intro zqq zqe))) | (k_dflt (first | (refine' call_cls0 (by k_asm) (by k_asm) (by k_asm) (by k_is) (by k_is) ?_; k_whole; intro zqx zqd zqh zqF zqN zql1 zql2; (try ((have zqU := Mine.lts_up zql1 zql2); (dsimp +zetaDelta only [List.map] at zqU))); (try k_lt zql1); (try k_lt2 zql2); (try k_sweep)) | ((first | (refine' call_cls (by k_asm) (by k_asm) (by k_asm) (by k_is) (by k_is) (by k_is) ?_; k_whole; intro zqx zqd zqh zqF zqN zql1 zql2; (try ((have zqU := Mine.lts_up zql1 zql2); (dsimp +zetaDelta only [List.map] at zqU))); (try k_lt zql1); (try k_lt2 zql2); (try k_sweep)) | (refine' Mine.call_fn (by k_asm) (by k_is) ?_; k_whole) | (refine' call_meth (by k_asm) (by k_mem) ?_; k_whole) | refine wpAny_call ?_); (first | (refine' code_defL (by exact rfl) (by exact rfl) (by first | exact rfl | assumption) (by k_asm) (by k_asm) (by k_asm) (by k_asm) (by k_asm) (by k_is) (by k_is) (by decide) (by ktr_room) (by first | exact BindsTo.of_eq rfl | exact binds_K (by k_in) rfl (by k_is) rfl rfl rfl) (by exact locs rfl) (by exact rfl) (by exact rfl) (by exact rfl) ?_; k_whole; intro zqg zqL zqh zqtk zqFG zqF zqN zqB zqX zqT zqe zqA; (try k_lift zqB); (try ((fail_if_success (fail_if_success k_fold)); (with_reducible refine Mine.wp_fold ?_); intro zqq zqe))) | (refine' code_defCL (by exact rfl) (by exact rfl) (by exact rfl) (by k_asm) (by k_asm) (by k_asm) (by k_asm) (by k_asm) (by k_is) (by k_is) (by ktr_room) (by first | exact BindsTo.of_eq rfl | exact binds_K (by k_in) rfl (by k_is) rfl rfl rfl) (by exact rfl) (by decide +kernel) (by exact rfl) (by exact rfl) (by exact rfl) ?_; k_whole; intro zqg zqL zqh zqtk zqcells zqFG zqF zqN zqY zqB zqX zqT zql1 zqe zqA; (try k_lt zql1); k_cells zqY; (try simp only [List.cons_append, List.nil_append] at zqN); (try dsimp only); (try k_lift zqB); (try ((fail_if_success (fail_if_success k_fold)); (with_reducible refine Mine.wp_fold ?_); intro zqq zqe)))))))) | walk1 | (dsimp only; walk1) | ((with_reducible show wpAny _ _ _ _ _ _); dsimp only) | (leave1; walk_say "STEP leave1"; (first | (with_reducible refine (?_ : wpAny _ _ _ _ _ _)) | try dsimp only))))
      all_goals first | exact (Value.none : Value) | exact (Str.ofString "" : Str) | exact ((0 : Nat) : Addr) | skip
      all_goals (rename Fr _ _ _ _ => F7; rename News _ _ _ _ => N7)
      all_goals exact ⟨_, _, ⟨_, _, _, _, _, _, _, _, _, _, _⟩, rfl, F7, N7, ⟨by assumption, by assumption, by (dsimp only; omega), by (dsimp only; omega), by (dsimp only; omega)⟩⟩
    case w2 =>
      rintro s9 ⟨h9, tk9, q9, rfl, F7, N7, hj1, hj2, hj3, hj4, hj5⟩
      dsimp only [ledB] at N7
      repeat' ((fail_if_success (with_reducible show wpAny _ _ (exec (PySem.Stmt.If _ _ _ _) _) _ _ _)); ((first | ((fail_if_success (fail_if_success k_unfold)); (first | (with_reducible refine (?_ : wpAny _ _ _ _ _ _)) | (k_unfold; (try dsimp only)))) | ((fail_if_success (fail_if_success k_fold)); (first | (goal_has PySem.exec; (fail_if_success (fail_if_success (with_reducible show wpAny _ _ (exec _ _) _ _ _)))) | (goal_has PySem.Expr.BoolOp; (fail_if_success (fail_if_success (with_reducible show wpAny _ _ (eval (PySem.Expr.BoolOp _ _ _) _) _ _ _)))) | (goal_has PySem.Expr.Call; (fail_if_success (fail_if_success (with_reducible show wpAny _ _ (eval (PySem.Expr.Call _ _ _ _) _) _ _ _)))) | (goal_has PySem.Expr.Compare; (fail_if_success (fail_if_success (with_reducible show wpAny _ _ (eval (PySem.Expr.Compare _ _ _ _) _) _ _ _))))); (with_reducible refine Mine.wp_fold ?_); intro zqq zqe) | (goal_has PySem.Shared.mk; (with_reducible refine Mine.st_let ?_); intro zqs; goal_lacks PySem.Shared.mk) | ((ctx_mentions ite List.lookup); (rename Fr _ _ _ _ => zqF9); revert zqF9; (goal_has ite List.lookup); (with_reducible refine Mine.fr_let ?_); intro zqm; goal_lacks ite List.lookup; intro zqF) | ((ctx_mentions List.cons HAppend.hAppend List.append); (rename News _ _ _ _ => zqN9); (fail_if_success (fail_if_success (conv at zqN9 => arg 4; arg 2))); (with_reducible refine Mine.news_let zqN9 ?_); intro zql zqN; clear zqN9) | (k_end; wrow_close) | (goal_has subscriptTail; first | ((fail_if_success (fail_if_success (with_reducible show wpAny _ _ (subscriptTail _ _ (Value.ref _) (Value.int _ _)) _ _ _))); k_dflt (refine' Mine.pick_two (by k_asm) (by k_mem) (by omega) (by omega) ?_); intro zqz' zqt' zqhz') | ((fail_if_success (fail_if_success (with_reducible show wpAny _ _ (subscriptTail _ _ (Value.ref _) (Value.int _ _)) _ _ _))); k_dflt (refine' Mine.item_ints (by k_asm) (by k_mem) (by assumption) (by omega) (by omega) (by omega) ?_); intro zqx' zqt' zqhx') | ((fail_if_success (fail_if_success (with_reducible show wpAny _ _ (subscriptTail _ (PySem.Expr.Slice _ _ none _) (Value.ref _) (Value.ref _)) _ _ _))); k_dflt (refine' Mine.cut_slice (by k_asm) (by k_asm) (by k_mem) (by exact IsPart.int _ _) (by exact IsPart.int _ _) (by first | decide | omega) (by first | decide | omega) (by assumption) (by first | assumption | exact rfl) (by omega) ?_ (by with_unfolding_all rfl) (by kmk_pure)); intro zqD' zqh' zqws' zqzs' zqhzs' zqhzl' zqhzi' zqF' zqN' zql1; (try k_lt zql1); (try k_sweep))) | (goal_has LCg.CompSrc; ((fail_if_success (fail_if_success (with_reducible show LCg.CompSrc _ _ _ _ _ _ _ _ _ _ _ _ _ _))); k_dflt (refine' LCg.CompSrc.range (by exact rfl) (by k_asm) (by k_asm) (by assumption) (by exact small_one (by omega) (by omega) (by omega) (by omega)) (by exact rangeSize_nat _ _) (by ((rw [PySem.sizeLine_eq]); omega)) ?_); intro zqg'; k_dflt (refine' Mine.comp_deck Mine.OkCode (by (intro zqo'; k_upd)) (by (intro zqo₁ zqo'; k_upd)) (by l_ints) (by assumption) (fun v' I' oI' C' oC' D' m' ys' h' tk' E' vs' ns' k' tk2' n' nc' hi' hl' hC' hx' F' N' off' ne' => ?_) (fun ys' vs' ns' k' tk2' n' nc' hyl' hok' hi' hl' => ?_)); (all_goals (try (dsimp only at *))); (all_goals (try (simp only [LCg.Off3, and_true] at off'))); (all_goals (try ((fail_if_success (fail_if_success k_fold)); (with_reducible refine Mine.wp_fold ?_); intro zqq zqe))))) | (goal_has PySem.Value.builtin; first | ((fail_if_success (fail_if_success (with_reducible show wpAny _ _ (call (Value.builtin "sorted") [Value.ref _]) _ _ _))); k_dflt (refine' Mine.sorted_nil (by exact rfl) (by k_asm) (by k_asm) (by k_mem) (by k_asm) (by k_asm) ?_); intro zqD' zqn' zqh' zqtk' zqF' zqN' zql1; (try k_lt zql1); (try k_sweep)) | ((fail_if_success (fail_if_success (with_reducible show wpAny _ _ (call (Value.builtin "len") [Value.ref _]) _ _ _))); k_dflt (refine' kst_len (by k_asm) (by k_mem) (by exact IntsAre.length (by assumption)) (by omega) ?_; k_whole)) | ((fail_if_success (fail_if_success (with_reducible show wpAny _ _ (call (Value.builtin _) [Value.ref _, Value.int _ _]) _ _ _))); k_dflt (refine' Mine.pop0 (by k_asm) (by k_asm) (by k_upd) (by ((simp only [List.length_cons, sizeLine_eq]); omega)) ?_; k_whole); intro zqh' zqF' zqN'; (try k_sweep))) | (goal_has binaryOp; first | ((fail_if_success (fail_if_success (with_reducible show wpAny _ _ (binaryOp Operator.Mult (Value.ref _) (Value.int _ _)) _ _ _))); k_dflt (refine' Mine.rep_list (by k_asm) (by k_asm) (by k_mem) (by first | decide | omega) (by first | decide | omega) ?_); intro zqD' zqh' zqws' zqzs' zqhzs' zqhzl' zqhzi' zqF' zqN' zql1; (try k_lt zql1); (try k_sweep)) | ((fail_if_success (fail_if_success (with_reducible show wpAny _ _ (binaryOp Operator.FloorDiv (Value.int _ _) (Value.int _ _)) _ _ _))); refine floordiv_int (by omega) ?_ (Or.inl (PyProof.noPylong_small (by omega))))) | (goal_has setItem; ((fail_if_success (fail_if_success (with_reducible show wpAny _ _ (setItem (Value.ref _) (Value.ref _) (Value.ref _)) _ _ _))); k_dflt (refine' Mine.set_slice_ints (by k_asm) (by k_asm) (by exact IsPart.int _ _) (by exact IsPart.int _ _) (by (intro zqo'; k_upd)) (by k_mem) (by first | decide | omega) (by first | decide | omega) (by k_ne) (by assumption) (by first | assumption | exact IntsAre.nil) (by first | assumption | exact rfl) (by first | assumption | exact rfl) (by omega) ?_); intro zqh' zqws' zqzs' zqn' zqhzs' zqhzl' zqhzi' zqF' zqN'; (try dsimp only at zqN'); (try k_sweep))) | (goal_has pyIter; ((fail_if_success (fail_if_success (with_reducible show wpAny _ _ (pyIter (Value.ref _)) (fun it s₂ => LoopAtV _ _ _ _ _ _ _ _ _ it s₂) _ _))); k_dflt (refine' Mine.iter_nil (by exact rfl) (by k_asm) (by k_asm) (by k_mem) ?_); intro zqh' zqtk' zqF' zqN'; (try k_sweep))) | (goal_has call; (fail_if_success (fail_if_success (with_reducible show wpAny _ _ (call (Value.ref _) _ _) _ _ _))); first | ((fail_if_success (fail_if_success (with_reducible show wpAny _ _ (call (Value.ref (639 : Nat)) [Value.ref _, Value.int _ _, Value.ref _]) _ _ _))); k_dflt (refine' Mine.ins_core (by k_asm) (by k_asm) (by k_asm) (by k_asm) (by k_asm) (by k_mem) (by k_mem) (by k_mem) (by k_mem) (by k_mem) (by assumption) (by assumption) (by k_mem) (by k_mem) (by assumption) (by first | assumption | omega) (by assumption) (by assumption) (by k_all) (by k_all) (by k_all) (by k_ne) (by k_ne) (by k_ne) (by ktr_room) (by ktr_units) ?_); intro zqh' zqtk' zqws' zqzz' zqpad' zqT1' zqT2' zqn' zqgs' zqge' zqzv' zqtk9' zqck' zqhzz' zqhzL' zqhzi' zqhgs' zqhge' zqhzv' zqhtk' zqF' zqN'; (try k_sweep); (try dsimp only); (try ((fail_if_success (fail_if_success k_fold)); (with_reducible refine Mine.wp_fold ?_); intro zqq zqe))) | ((fail_if_success (fail_if_success (with_reducible show wpAny _ _ (call (Value.ref (435 : Nat)) [Value.int _ _, Value.str _ _]) _ _ _))); k_dflt (refine' Mine.buf_ok (by k_asm) (by k_asm) (by k_asm) (by k_asm) (by k_asm) (by ktr_room) (by ktr_units) ?_); intro zqh' zqtk' zqb' zqbd' zqg' zqgp' zqce' zqmk' zqmkd' zqrd' zqli' zqtr' zqnce' zqnli' zqro' zqzs' zqz0' zqT1' zqT2' zql1 zql3 zql4 zql2 zqlo' zqhd' zqhz' zqhz8' zqF' zqN'; (obtain ⟨lu1, lu2, lu3, lu4, lu5, lu6, lu7, lu8⟩ := Mine.lts_chain8 zql1 zql2); (try dsimp +zetaDelta only [List.map] at lu1 lu2 lu3 lu4 lu5 lu6 lu7 lu8); (try k_lt zql1); (try k_lt zql3); (try k_lt zql4); (try k_sweep); (try dsimp only); (try ((fail_if_success (fail_if_success k_fold)); (with_reducible refine Mine.wp_fold ?_); intro zqq zqe))) | ((fail_if_success (fail_if_success (with_reducible show wpAny _ _ (call (Value.ref (853 : Nat)) [Value.ref _, Value.int _ _, Value.int _ _]) _ _ _))); k_dflt (refine' Mine.narrow_ok (by k_asm) (by k_asm) (by k_asm) (by k_asm) (by k_asm) (by k_mem) (by k_ne) (by (intro zqo'; k_upd)) (by k_mem) (by k_ne) (by k_mem) (by k_ne) (by k_mem) (by k_ne) (by assumption) (by assumption) (by assumption) (by assumption) (by assumption) (by omega) (by omega) (by omega) (by omega) (by ktr_room) (by ktr_units) ?_); intro zqh' zqtk' zqT1' zqpt' zqbv' zqzv' zqhbv1' zqhbv2' zqhbv3' zqF' zqN'; (try dsimp only at zqN'); (try k_sweep); (try dsimp only); (try ((fail_if_success (fail_if_success k_fold)); (with_reducible refine Mine.wp_fold ?_); intro zqq zqe))) | ((fail_if_success (fail_if_success (with_reducible show wpAny _ _ (call (Value.ref (425 : Nat)) [Value.ref _, Value.bool false]) _ _ _))); k_dflt (refine' Mine.mod_ok (by k_asm) (by k_asm) (by k_asm) (by k_asm) (by k_asm) (by k_mem) (by k_ne) (by (intro zqo'; k_upd)) (by ktr_room) (by ktr_units) ?_); intro zqh' zqtk' zqT1' zqsv' zqF' zqN'; (try dsimp only at zqN'); (try k_sweep); (try dsimp only); (try ((fail_if_success (fail_if_success k_fold)); (with_reducible refine Mine.wp_fold ?_); intro zqq zqe))) | ((fail_if_success (fail_if_success (with_reducible show wpAny _ _ (call (Value.ref (1027 : Nat)) [Value.ref _, Value.int _ _]) _ _ _))); k_dflt (refine' Mine.draw_ok (by k_asm) (by k_asm) (by k_asm) (by k_asm) (by k_asm) (by first | exact rfl | assumption) (by (intro zqo'; k_upd)) (by (intro zqo₁ zqo'; k_upd)) (by l_ints) (by first | assumption | omega) (by first | decide | omega) (by first | decide | omega) (by ktr_room) (by ktr_units) ?_); intro zqr' zqt' zqh' zqtk' zqvs' zqns' zqk' zqtk2' zqn' zqnc' zqhr0' zqhr1' zqhi' zqhl' zqF' zqN'; (try dsimp only at zqN'); (try k_sweep); (try dsimp only); (try ((fail_if_success (fail_if_success k_fold)); (with_reducible refine Mine.wp_fold ?_); intro zqq zqe))) | (k_dflt (first | (refine' call_cls0 (by k_asm) (by k_asm) (by k_asm) (by k_is) (by k_is) ?_; k_whole; intro zqx zqd zqh zqF zqN zql1 zql2; (try ((have zqU := Mine.lts_up zql1 zql2); (dsimp +zetaDelta only [List.map] at zqU))); (try k_lt zql1); (try k_lt2 zql2); (try k_sweep)) | ((first | (refine' call_cls (by k_asm) (by k_asm) (by k_asm) (by k_is) (by k_is) (by k_is) ?_; k_whole; intro zqx zqd zqh zqF zqN zql1 zql2; (try ((have zqU := Mine.lts_up zql1 zql2); (dsimp +zetaDelta only [List.map] at zqU))); (try k_lt zql1); (try k_lt2 zql2); (try k_sweep)) | (refine' Mine.call_fn (by k_asm) (by k_is) ?_; k_whole) | (refine' call_meth (by k_asm) (by k_mem) ?_; k_whole) | refine wpAny_call ?_); (first | (refine' code_defL (by exact rfl) (by exact rfl) (by first | exact rfl | assumption) (by k_asm) (by k_asm) (by k_asm) (by k_asm) (by k_asm) (by k_is) (by k_is) (by decide) (by ktr_room) (by first | exact BindsTo.of_eq rfl | exact binds_K (by k_in) rfl (by k_is) rfl rfl rfl) (by exact locs rfl) (by exact rfl) (by exact rfl) (by exact rfl) ?_; k_whole; intro zqg zqL zqh zqtk zqFG zqF zqN zqB zqX zqT zqe zqA; (try k_lift zqB); (try ((fail_if_success (fail_if_success k_fold)); (with_reducible refine Mine.wp_fold ?_); intro zqq zqe))) | (refine' code_defCL (by exact rfl) (by exact rfl) (by exact rfl) (by k_asm) (by k_asm) (by k_asm) (by k_asm) (by k_asm) (by k_is) (by k_is) (by ktr_room) (by first | exact BindsTo.of_eq rfl | exact binds_K (by k_in) rfl (by k_is) rfl rfl rfl) (by exact rfl) (by decide +kernel) (by exact rfl) (by exact rfl) (by exact rfl) ?_; k_whole; intro zqg zqL zqh zqtk zqcells zqFG zqF zqN zqY zqB zqX zqT zql1 zqe zqA; (try k_lt zql1); k_cells zqY; (try simp only [List.cons_append, List.nil_append] at zqN); (try dsimp only); (try k_lift zqB); (try ((fail_if_success (fail_if_success k_fold)); (with_reducible refine Mine.wp_fold ?_); intro zqq zqe)))))))) | walk1 | (dsimp only; walk1) | ((with_reducible show wpAny _ _ _ _ _ _); dsimp only) | (leave1; walk_say "STEP leave1"; (first | (with_reducible refine (?_ : wpAny _ _ _ _ _ _)) | try dsimp only)))))
      all_goals first | exact (Value.none : Value) | exact (Str.ofString "" : Str) | exact ((0 : Nat) : Addr) | skip
      rename Fr _ _ _ _ => F6
      rename News _ _ _ _ => N6
      have N5 : News _ _ _ ((d, deckO c S tS _ _ _) :: (c, listOf (List.toArray _) _) :: (_, bufO w.params (tokF [_, _, _, _, _, _, _, _, _, _, _, _, _, _, _, _, _, _, _, _, _, _, _, _, _, _, _, _]) _ _ _ _ _ _ _ _ _ _ _) :: own9) := cb_drop N6 (List.forall_mem_cons.mpr ⟨.head _, List.forall_mem_cons.mpr ⟨.tail _ (.head _), List.forall_mem_cons.mpr ⟨.tail _ (.tail _ (.head _)), fun q hq => .tail _ (.tail _ (.tail _ hq))⟩⟩⟩)
      clear N6
      refine' exec_join (NowF F6 s (ledB N5) (jB (ks.length : Int))) ?w3 ?w4
      case w3 =>
        repeat' ((first | ((fail_if_success (fail_if_success k_unfold)); (first | (with_reducible refine (?_ : wpAny _ _ _ _ _ _)) | (k_unfold; (try dsimp only)))) | ((fail_if_success (fail_if_success k_fold)); (first | (goal_has PySem.exec; (fail_if_success (fail_if_success (with_reducible show wpAny _ _ (exec _ _) _ _ _)))) | (goal_has PySem.Expr.BoolOp; (fail_if_success (fail_if_success (with_reducible show wpAny _ _ (eval (PySem.Expr.BoolOp _ _ _) _) _ _ _)))) | (goal_has PySem.Expr.Call; (fail_if_success (fail_if_success (with_reducible show wpAny _ _ (eval (PySem.Expr.Call _ _ _ _) _) _ _ _)))) | (goal_has PySem.Expr.Compare; (fail_if_success (fail_if_success (with_reducible show wpAny _ _ (eval (PySem.Expr.Compare _ _ _ _) _) _ _ _))))); (with_reducible refine Mine.wp_fold ?_); intro zqq zqe) | (goal_has PySem.Shared.mk; (with_reducible refine Mine.st_let ?_); intro zqs; goal_lacks PySem.Shared.mk) | ((ctx_mentions ite List.lookup); (rename Fr _ _ _ _ => zqF9); revert zqF9; (goal_has ite List.lookup); (with_reducible refine Mine.fr_let ?_); intro zqm; goal_lacks ite List.lookup; intro zqF) | ((ctx_mentions List.cons HAppend.hAppend List.append); (rename News _ _ _ _ => zqN9); (fail_if_success (fail_if_success (conv at zqN9 => arg 4; arg 2))); (with_reducible refine Mine.news_let zqN9 ?_); intro zql zqN; clear zqN9) | (k_end; wrow_close) | (goal_has subscriptTail; first | ((fail_if_success (fail_if_success (with_reducible show wpAny _ _ (subscriptTail _ _ (Value.ref _) (Value.int _ _)) _ _ _))); k_dflt (refine' Mine.pick_two (by k_asm) (by k_mem) (by omega) (by omega) ?_); intro zqz' zqt' zqhz') | ((fail_if_success (fail_if_success (with_reducible show wpAny _ _ (subscriptTail _ _ (Value.ref _) (Value.int _ _)) _ _ _))); k_dflt (refine' Mine.item_ints (by k_asm) (by k_mem) (by assumption) (by omega) (by omega) (by omega) ?_); intro zqx' zqt' zqhx') | ((fail_if_success (fail_if_success (with_reducible show wpAny _ _ (subscriptTail _ (PySem.Expr.Slice _ _ none _) (Value.ref _) (Value.ref _)) _ _ _))); k_dflt (refine' Mine.cut_slice (by k_asm) (by k_asm) (by k_mem) (by exact IsPart.int _ _) (by exact IsPart.int _ _) (by first | decide | omega) (by first | decide | omega) (by assumption) (by first | assumption | exact rfl) (by omega) ?_ (by with_unfolding_all rfl) (by kmk_pure)); intro zqD' zqh' zqws' zqzs' zqhzs' zqhzl' zqhzi' zqF' zqN' zql1; (try k_lt zql1); (try k_sweep))) | (goal_has LCg.CompSrc; ((fail_if_success (fail_if_success (with_reducible show LCg.CompSrc _ _ _ _ _ _ _ _ _ _ _ _ _ _))); k_dflt (refine' LCg.CompSrc.range (by exact rfl) (by k_asm) (by k_asm) (by assumption) (by exact small_one (by omega) (by omega) (by omega) (by omega)) (by exact rangeSize_nat _ _) (by ((rw [PySem.sizeLine_eq]); omega)) ?_); intro zqg'; k_dflt (refine' Mine.comp_deck Mine.OkCode (by (intro zqo'; k_upd)) (by (intro zqo₁ zqo'; k_upd)) (by l_ints) (by assumption) (fun v' I' oI' C' oC' D' m' ys' h' tk' E' vs' ns' k' tk2' n' nc' hi' hl' hC' hx' F' N' off' ne' => ?_) (fun ys' vs' ns' k' tk2' n' nc' hyl' hok' hi' hl' => ?_)); (all_goals (try (dsimp only at *))); (all_goals (try (simp only [LCg.Off3, and_true] at off'))); (all_goals (try ((fail_if_success (fail_if_success k_fold)); (with_reducible refine Mine.wp_fold ?_); intro zqq zqe))))) | (goal_has PySem.Value.builtin; first | ((fail_if_success (fail_if_success (with_reducible show wpAny _ _ (call (Value.builtin "sorted") [Value.ref _]) _ _ _))); k_dflt (refine' Mine.sorted_nil (by exact rfl) (by k_asm) (by k_asm) (by k_mem) (by k_asm) (by k_asm) ?_); intro zqD' zqn' zqh' zqtk' zqF' zqN' zql1; (try k_lt zql1); (try k_sweep)) | ((fail_if_success (fail_if_success (with_reducible show wpAny _ _ (call (Value.builtin "len") [Value.ref _]) _ _ _))); k_dflt (refine' kst_len (by k_asm) (by k_mem) (by exact IntsAre.length (by assumption)) (by omega) ?_; k_whole)) | ((fail_if_success (fail_if_success (with_reducible show wpAny _ _ (call (Value.builtin _) [Value.ref _, Value.int _ _]) _ _ _))); k_dflt (refine' Mine.pop0 (by k_asm) (by k_asm) (by k_upd) (by ((simp only [List.length_cons, sizeLine_eq]); omega)) ?_; k_whole); intro zqh' zqF' zqN'; (try k_sweep))) | (goal_has binaryOp; first | ((fail_if_success (fail_if_success (with_reducible show wpAny _ _ (binaryOp Operator.Mult (Value.ref _) (Value.int _ _)) _ _ _))); k_dflt (refine' Mine.rep_list (by k_asm) (by k_asm) (by k_mem) (by first | decide | omega) (by first | decide | omega) ?_); intro zqD' zqh' zqws' zqzs' zqhzs' zqhzl' zqhzi' zqF' zqN' zql1; (try k_lt zql1); (try k_sweep)) | ((fail_if_success (fail_if_success (with_reducible show wpAny _ _ (binaryOp Operator.FloorDiv (Value.int _ _) (Value.int _ _)) _ _ _))); refine floordiv_int (by omega) ?_ (Or.inl (PyProof.noPylong_small (by omega))))) | (goal_has setItem; ((fail_if_success (fail_if_success (with_reducible show wpAny _ _ (setItem (Value.ref _) (Value.ref _) (Value.ref _)) _ _ _))); k_dflt (refine' Mine.set_slice_ints (by k_asm) (by k_asm) (by exact IsPart.int _ _) (by exact IsPart.int _ _) (by (intro zqo'; k_upd)) (by k_mem) (by first | decide | omega) (by first | decide | omega) (by k_ne) (by assumption) (by first | assumption | exact IntsAre.nil) (by first | assumption | exact rfl) (by first | assumption | exact rfl) (by omega) ?_); intro zqh' zqws' zqzs' zqn' zqhzs' zqhzl' zqhzi' zqF' zqN'; (try dsimp only at zqN'); (try k_sweep))) | (goal_has pyIter; ((fail_if_success (fail_if_success (with_reducible show wpAny _ _ (pyIter (Value.ref _)) (fun it s₂ => LoopAtV _ _ _ _ _ _ _ _ _ it s₂) _ _))); k_dflt (refine' Mine.iter_nil (by exact rfl) (by k_asm) (by k_asm) (by k_mem) ?_); intro zqh' zqtk' zqF' zqN'; (try k_sweep))) | (goal_has call; (fail_if_success (fail_if_success (with_reducible show wpAny _ _ (call (Value.ref _) _ _) _ _ _))); first | ((fail_if_success (fail_if_success (with_reducible show wpAny _ _ (call (Value.ref (639 : Nat)) [Value.ref _, Value.int _ _, Value.ref _]) _ _ _))); k_dflt (refine' Mine.ins_core (by k_asm) (by k_asm) (by k_asm) (by k_asm) (by k_asm) (by k_mem) (by k_mem) (by k_mem) (by k_mem) (by k_mem) (by assumption) (by assumption) (by k_mem) (by k_mem) (by assumption) (by first | assumption | omega) (by assumption) (by assumption) (by k_all) (by k_all) (by k_all) (by k_ne) (by k_ne) (by k_ne) (by ktr_room) (by ktr_units) ?_); intro zqh' zqtk' zqws' zqzz' zqpad' zqT1' zqT2' zqn' zqgs' zqge' zqzv' zqtk9' zqck' zqhzz' zqhzL' zqhzi' zqhgs' zqhge' zqhzv' zqhtk' zqF' zqN'; (try k_sweep); (try dsimp only); (try ((fail_if_success (fail_if_success k_fold)); (with_reducible refine Mine.wp_fold ?_); intro zqq zqe))) | ((fail_if_success (fail_if_success (with_reducible show wpAny _ _ (call (Value.ref (435 : Nat)) [Value.int _ _, Value.str _ _]) _ _ _))); k_dflt (refine' Mine.buf_ok (by k_asm) (by k_asm) (by k_asm) (by k_asm) (by k_asm) (by ktr_room) (by ktr_units) ?_); intro zqh' zqtk' zqb' zqbd' zqg' zqgp' zqce' zqmk' zqmkd' zqrd' zqli' zqtr' zqnce' zqnli' zqro' zqzs' zqz0' zqT1' zqT2' zql1 zql3 zql4 zql2 zqlo' zqhd' zqhz' zqhz8' zqF' zqN'; (obtain ⟨lu1, lu2, lu3, lu4, lu5, lu6, lu7, lu8⟩ := Mine.lts_chain8 zql1 zql2); (try dsimp +zetaDelta only [List.map] at lu1 lu2 lu3 lu4 lu5 lu6 lu7 lu8); (try k_lt zql1); (try k_lt zql3); (try k_lt zql4); (try k_sweep); (try dsimp only); (try ((fail_if_success (fail_if_success k_fold)); (with_reducible refine Mine.wp_fold ?_); intro zqq zqe))) | ((fail_if_success (fail_if_success (with_reducible show wpAny _ _ (call (Value.ref (853 : Nat)) [Value.ref _, Value.int _ _, Value.int _ _]) _ _ _))); k_dflt (refine' Mine.narrow_ok (by k_asm) (by k_asm) (by k_asm) (by k_asm) (by k_asm) (by k_mem) (by k_ne) (by (intro zqo'; k_upd)) (by k_mem) (by k_ne) (by k_mem) (by k_ne) (by k_mem) (by k_ne) (by assumption) (by assumption) (by assumption) (by assumption) (by assumption) (by omega) (by omega) (by omega) (by omega) (by ktr_room) (by ktr_units) ?_); intro zqh' zqtk' zqT1' zqpt' zqbv' zqzv' zqhbv1' zqhbv2' zqhbv3' zqF' zqN'; (try dsimp only at zqN'); (try k_sweep); (try dsimp only); (try ((fail_if_success (fail_if_success k_fold)); (with_reducible refine Mine.wp_fold ?_); intro zqq zqe))) | ((fail_if_success (fail_if_success (with_reducible show wpAny _ _ (call (Value.ref (425 : Nat)) [Value.ref _, Value.bool false]) _ _ _))); k_dflt (refine' Mine.mod_ok (by k_asm) (by k_asm) (by k_asm) (by k_asm) (by k_asm) (by k_mem) (by k_ne) (by (intro zqo'; k_upd)) (by ktr_room) (by ktr_units) ?_); intro zqh' zqtk' zqT1' zqsv' zqF' zqN'; (try dsimp only at zqN'); (try k_sweep); (try dsimp only); (try ((fail_if_success (fail_if_success k_fold)); (with_reducible refine Mine.wp_fold ?_); intro zqq zqe))) | ((fail_if_success (fail_if_success (with_reducible show wpAny _ _ (call (Value.ref (1027 : Nat)) [Value.ref _, Value.int _ _]) _ _ _))); k_dflt (refine' Mine.draw_ok (by k_asm) (by k_asm) (by k_asm) (by k_asm) (by k_asm) (by first | exact rfl | assumption) (by (intro zqo'; k_upd)) (by (intro zqo₁ zqo'; k_upd)) (by l_ints) (by first | assumption | omega) (by first | decide | omega) (by first | decide | omega) (by ktr_room) (by ktr_units) ?_); intro zqr' zqt' zqh' zqtk' zqvs' zqns' zqk' zqtk2' zqn' zqnc' zqhr0' zqhr1' zqhi' zqhl' zqF' zqN'; (try dsimp only at zqN'); (try k_sweep); (try dsimp only); (try ((fail_if_success (fail_if_success k_fold)); (with_reducible refine Mine.wp_fold ?_); intro zqq zqe))) | (k_dflt (first | (refine' call_cls0 (by k_asm) (by k_asm) (by k_asm) (by k_is) (by k_is) ?_; k_whole; intro zqx zqd zqh zqF zqN zql1 zql2; (try ((have zqU := Mine.lts_up zql1 zql2); (dsimp +zetaDelta only [List.map] at zqU))); (try k_lt zql1); (try k_lt2 zql2); (try k_sweep)) | ((first | (refine' call_cls (by k_asm) (by k_asm) (by k_asm) (by k_is) (by k_is) (by k_is) ?_; k_whole; intro zqx zqd zqh zqF zqN zql1 zql2; (try ((have zqU := Mine.lts_up zql1 zql2); (dsimp +zetaDelta only [List.map] at zqU))); (try k_lt zql1); (try k_lt2 zql2); (try k_sweep)) | (refine' Mine.call_fn (by k_asm) (by k_is) ?_; k_whole) | (refine' call_meth (by k_asm) (by k_mem) ?_; k_whole) | refine wpAny_call ?_); (first | (refine' code_defL (by exact rfl) (by exact rfl) (by first | exact rfl | assumption) (by k_asm) (by k_asm) (by k_asm) (by k_asm) (by k_asm) (by k_is) (by k_is) (by decide) (by ktr_room) (by first | exact BindsTo.of_eq rfl | exact binds_K (by k_in) rfl (by k_is) rfl rfl rfl) (by exact locs rfl) (by exact rfl) (by exact rfl) (by exact rfl) ?_; k_whole; intro zqg zqL zqh zqtk zqFG zqF zqN zqB zqX zqT zqe zqA; (try k_lift zqB); (try ((fail_if_success (fail_if_success k_fold)); (with_reducible refine Mine.wp_fold ?_); intro zqq zqe))) | (refine' code_defCL (by exact rfl) (by exact rfl) (by exact rfl) (by k_asm) (by k_asm) (by k_asm) (by k_asm) (by k_asm) (by k_is) (by k_is) (by ktr_room) (by first | exact BindsTo.of_eq rfl | exact binds_K (by k_in) rfl (by k_is) rfl rfl rfl) (by exact rfl) (by decide +kernel) (by exact rfl) (by exact rfl) (by exact rfl) ?_; k_whole; intro zqg zqL zqh zqtk zqcells zqFG zqF zqN zqY zqB zqX zqT zql1 zqe zqA; (try k_lt zql1); k_cells zqY; (try simp only [List.cons_append, List.nil_append] at zqN); (try dsimp only); (try k_lift zqB); (try ((fail_if_success (fail_if_success k_fold)); (with_reducible refine Mine.wp_fold ?_); intro zqq zqe)))))))) | walk1 | (dsimp only; walk1) | ((with_reducible show wpAny _ _ _ _ _ _); dsimp only) | (leave1; walk_say "STEP leave1"; (first | (with_reducible refine (?_ : wpAny _ _ _ _ _ _)) | try dsimp only))))
        all_goals first | exact (Value.none : Value) | exact (Str.ofString "" : Str) | exact ((0 : Nat) : Addr) | skip
        all_goals (rename Fr _ _ _ _ => F4; rename News _ _ _ _ => N4)
        all_goals exact ⟨_, _, ⟨_, _, _, _, _, _, _, _, _, _, _⟩, rfl, F4, N4, ⟨by assumption, by assumption, by (dsimp only; omega), by (dsimp only; omega), by (dsimp only; omega)⟩⟩
      case w4 =>
        rintro s3 ⟨h3, tk3, q3, rfl, F4, N4, hk1, hk2, hk3, hk4, hk5⟩
        dsimp only [ledB] at N4
        repeat' ((first | ((fail_if_success (fail_if_success k_unfold)); (first | (with_reducible refine (?_ : wpAny _ _ _ _ _ _)) | (k_unfold; (try dsimp only)))) | ((fail_if_success (fail_if_success k_fold)); (first | (goal_has PySem.exec; (fail_if_success (fail_if_success (with_reducible show wpAny _ _ (exec _ _) _ _ _)))) | (goal_has PySem.Expr.BoolOp; (fail_if_success (fail_if_success (with_reducible show wpAny _ _ (eval (PySem.Expr.BoolOp _ _ _) _) _ _ _)))) | (goal_has PySem.Expr.Call; (fail_if_success (fail_if_success (with_reducible show wpAny _ _ (eval (PySem.Expr.Call _ _ _ _) _) _ _ _)))) | (goal_has PySem.Expr.Compare; (fail_if_success (fail_if_success (with_reducible show wpAny _ _ (eval (PySem.Expr.Compare _ _ _ _) _) _ _ _))))); (with_reducible refine Mine.wp_fold ?_); intro zqq zqe) | (goal_has PySem.Shared.mk; (with_reducible refine Mine.st_let ?_); intro zqs; goal_lacks PySem.Shared.mk) | ((ctx_mentions ite List.lookup); (rename Fr _ _ _ _ => zqF9); revert zqF9; (goal_has ite List.lookup); (with_reducible refine Mine.fr_let ?_); intro zqm; goal_lacks ite List.lookup; intro zqF) | ((ctx_mentions List.cons HAppend.hAppend List.append); (rename News _ _ _ _ => zqN9); (fail_if_success (fail_if_success (conv at zqN9 => arg 4; arg 2))); (with_reducible refine Mine.news_let zqN9 ?_); intro zql zqN; clear zqN9) | (k_end; wrow_close) | (goal_has subscriptTail; first | ((fail_if_success (fail_if_success (with_reducible show wpAny _ _ (subscriptTail _ _ (Value.ref _) (Value.int _ _)) _ _ _))); k_dflt (refine' Mine.pick_two (by k_asm) (by k_mem) (by omega) (by omega) ?_); intro zqz' zqt' zqhz') | ((fail_if_success (fail_if_success (with_reducible show wpAny _ _ (subscriptTail _ _ (Value.ref _) (Value.int _ _)) _ _ _))); k_dflt (refine' Mine.item_ints (by k_asm) (by k_mem) (by assumption) (by omega) (by omega) (by omega) ?_); intro zqx' zqt' zqhx') | ((fail_if_success (fail_if_success (with_reducible show wpAny _ _ (subscriptTail _ (PySem.Expr.Slice _ _ none _) (Value.ref _) (Value.ref _)) _ _ _))); k_dflt (refine' Mine.cut_slice (by k_asm) (by k_asm) (by k_mem) (by exact IsPart.int _ _) (by exact IsPart.int _ _) (by first | decide | omega) (by first | decide | omega) (by assumption) (by first | assumption | exact rfl) (by omega) ?_ (by with_unfolding_all rfl) (by kmk_pure)); intro zqD' zqh' zqws' zqzs' zqhzs' zqhzl' zqhzi' zqF' zqN' zql1; (try k_lt zql1); (try k_sweep))) | (goal_has LCg.CompSrc; ((fail_if_success (fail_if_success (with_reducible show LCg.CompSrc _ _ _ _ _ _ _ _ _ _ _ _ _ _))); k_dflt (refine' LCg.CompSrc.range (by exact rfl) (by k_asm) (by k_asm) (by assumption) (by exact small_one (by omega) (by omega) (by omega) (by omega)) (by exact rangeSize_nat _ _) (by ((rw [PySem.sizeLine_eq]); omega)) ?_); intro zqg'; k_dflt (refine' Mine.comp_deck Mine.OkCode (by (intro zqo'; k_upd)) (by (intro zqo₁ zqo'; k_upd)) (by l_ints) (by assumption) (fun v' I' oI' C' oC' D' m' ys' h' tk' E' vs' ns' k' tk2' n' nc' hi' hl' hC' hx' F' N' off' ne' => ?_) (fun ys' vs' ns' k' tk2' n' nc' hyl' hok' hi' hl' => ?_)); (all_goals (try (dsimp only at *))); (all_goals (try (simp only [LCg.Off3, and_true] at off'))); (all_goals (try ((fail_if_success (fail_if_success k_fold)); (with_reducible refine Mine.wp_fold ?_); intro zqq zqe))))) | (goal_has PySem.Value.builtin; first | ((fail_if_success (fail_if_success (with_reducible show wpAny _ _ (call (Value.builtin "sorted") [Value.ref _]) _ _ _))); k_dflt (refine' Mine.sorted_nil (by exact rfl) (by k_asm) (by k_asm) (by k_mem) (by k_asm) (by k_asm) ?_); intro zqD' zqn' zqh' zqtk' zqF' zqN' zql1; (try k_lt zql1); (try k_sweep)) | ((fail_if_success (fail_if_success (with_reducible show wpAny _ _ (call (Value.builtin "len") [Value.ref _]) _ _ _))); k_dflt (refine' kst_len (by k_asm) (by k_mem) (by exact IntsAre.length (by assumption)) (by omega) ?_; k_whole)) | ((fail_if_success (fail_if_success (with_reducible show wpAny _ _ (call (Value.builtin _) [Value.ref _, Value.int _ _]) _ _ _))); k_dflt (refine' Mine.pop0 (by k_asm) (by k_asm) (by k_upd) (by ((simp only [List.length_cons, sizeLine_eq]); omega)) ?_; k_whole); intro zqh' zqF' zqN'; (try k_sweep))) | (goal_has binaryOp; first | ((fail_if_success (fail_if_success (with_reducible show wpAny _ _ (binaryOp Operator.Mult (Value.ref _) (Value.int _ _)) _ _ _))); k_dflt (refine' Mine.rep_list (by k_asm) (by k_asm) (by k_mem) (by first | decide | omega) (by first | decide | omega) ?_); intro zqD' zqh' zqws' zqzs' zqhzs' zqhzl' zqhzi' zqF' zqN' zql1; (try k_lt zql1); (try k_sweep)) | ((fail_if_success (fail_if_success (with_reducible show wpAny _ _ (binaryOp Operator.FloorDiv (Value.int _ _) (Value.int _ _)) _ _ _))); refine floordiv_int (by omega) ?_ (Or.inl (PyProof.noPylong_small (by omega))))) | (goal_has setItem; ((fail_if_success (fail_if_success (with_reducible show wpAny _ _ (setItem (Value.ref _) (Value.ref _) (Value.ref _)) _ _ _))); k_dflt (refine' Mine.set_slice_ints (by k_asm) (by k_asm) (by exact IsPart.int _ _) (by exact IsPart.int _ _) (by (intro zqo'; k_upd)) (by k_mem) (by first | decide | omega) (by first | decide | omega) (by k_ne) (by assumption) (by first | assumption | exact IntsAre.nil) (by first | assumption | exact rfl) (by first | assumption | exact rfl) (by omega) ?_); intro zqh' zqws' zqzs' zqn' zqhzs' zqhzl' zqhzi' zqF' zqN'; (try dsimp only at zqN'); (try k_sweep))) | (goal_has pyIter; ((fail_if_success (fail_if_success (with_reducible show wpAny _ _ (pyIter (Value.ref _)) (fun it s₂ => LoopAtV _ _ _ _ _ _ _ _ _ it s₂) _ _))); k_dflt (refine' Mine.iter_nil (by exact rfl) (by k_asm) (by k_asm) (by k_mem) ?_); intro zqh' zqtk' zqF' zqN'; (try k_sweep))) | (goal_has call; (fail_if_success (fail_if_success (with_reducible show wpAny _ _ (call (Value.ref _) _ _) _ _ _))); first | ((fail_if_success (fail_if_success (with_reducible show wpAny _ _ (call (Value.ref (639 : Nat)) [Value.ref _, Value.int _ _, Value.ref _]) _ _ _))); k_dflt (refine' Mine.ins_core (by k_asm) (by k_asm) (by k_asm) (by k_asm) (by k_asm) (by k_mem) (by k_mem) (by k_mem) (by k_mem) (by k_mem) (by assumption) (by assumption) (by k_mem) (by k_mem) (by assumption) (by first | assumption | omega) (by assumption) (by assumption) (by k_all) (by k_all) (by k_all) (by k_ne) (by k_ne) (by k_ne) (by ktr_room) (by ktr_units) ?_); intro zqh' zqtk' zqws' zqzz' zqpad' zqT1' zqT2' zqn' zqgs' zqge' zqzv' zqtk9' zqck' zqhzz' zqhzL' zqhzi' zqhgs' zqhge' zqhzv' zqhtk' zqF' zqN'; (try k_sweep); (try dsimp only); (try ((fail_if_success (fail_if_success k_fold)); (with_reducible refine Mine.wp_fold ?_); intro zqq zqe))) | ((fail_if_success (fail_if_success (with_reducible show wpAny _ _ (call (Value.ref (435 : Nat)) [Value.int _ _, Value.str _ _]) _ _ _))); k_dflt (refine' Mine.buf_ok (by k_asm) (by k_asm) (by k_asm) (by k_asm) (by k_asm) (by ktr_room) (by ktr_units) ?_); intro zqh' zqtk' zqb' zqbd' zqg' zqgp' zqce' zqmk' zqmkd' zqrd' zqli' zqtr' zqnce' zqnli' zqro' zqzs' zqz0' zqT1' zqT2' zql1 zql3 zql4 zql2 zqlo' zqhd' zqhz' zqhz8' zqF' zqN'; (obtain ⟨lu1, lu2, lu3, lu4, lu5, lu6, lu7, lu8⟩ := Mine.lts_chain8 zql1 zql2); (try dsimp +zetaDelta only [List.map] at lu1 lu2 lu3 lu4 lu5 lu6 lu7 lu8); (try k_lt zql1); (try k_lt zql3); (try k_lt zql4); (try k_sweep); (try dsimp only); (try ((fail_if_success (fail_if_success k_fold)); (with_reducible refine Mine.wp_fold ?_); intro zqq zqe))) | ((fail_if_success (fail_if_success (with_reducible show wpAny _ _ (call (Value.ref (853 : Nat)) [Value.ref _, Value.int _ _, Value.int _ _]) _ _ _))); k_dflt (refine' Mine.narrow_ok (by k_asm) (by k_asm) (by k_asm) (by k_asm) (by k_asm) (by k_mem) (by k_ne) (by (intro zqo'; k_upd)) (by k_mem) (by k_ne) (by k_mem) (by k_ne) (by k_mem) (by k_ne) (by assumption) (by assumption) (by assumption) (by assumption) (by assumption) (by omega) (by omega) (by omega) (by omega) (by ktr_room) (by ktr_units) ?_); intro zqh' zqtk' zqT1' zqpt' zqbv' zqzv' zqhbv1' zqhbv2' zqhbv3' zqF' zqN'; (try dsimp only at zqN'); (try k_sweep); (try dsimp only); (try ((fail_if_success (fail_if_success k_fold)); (with_reducible refine Mine.wp_fold ?_); intro zqq zqe))) | ((fail_if_success (fail_if_success (with_reducible show wpAny _ _ (call (Value.ref (425 : Nat)) [Value.ref _, Value.bool false]) _ _ _))); k_dflt (refine' Mine.mod_ok (by k_asm) (by k_asm) (by k_asm) (by k_asm) (by k_asm) (by k_mem) (by k_ne) (by (intro zqo'; k_upd)) (by ktr_room) (by ktr_units) ?_); intro zqh' zqtk' zqT1' zqsv' zqF' zqN'; (try dsimp only at zqN'); (try k_sweep); (try dsimp only); (try ((fail_if_success (fail_if_success k_fold)); (with_reducible refine Mine.wp_fold ?_); intro zqq zqe))) | ((fail_if_success (fail_if_success (with_reducible show wpAny _ _ (call (Value.ref (1027 : Nat)) [Value.ref _, Value.int _ _]) _ _ _))); k_dflt (refine' Mine.draw_ok (by k_asm) (by k_asm) (by k_asm) (by k_asm) (by k_asm) (by first | exact rfl | assumption) (by (intro zqo'; k_upd)) (by (intro zqo₁ zqo'; k_upd)) (by l_ints) (by first | assumption | omega) (by first | decide | omega) (by first | decide | omega) (by ktr_room) (by ktr_units) ?_); intro zqr' zqt' zqh' zqtk' zqvs' zqns' zqk' zqtk2' zqn' zqnc' zqhr0' zqhr1' zqhi' zqhl' zqF' zqN'; (try dsimp only at zqN'); (try k_sweep); (try dsimp only); (try ((fail_if_success (fail_if_success k_fold)); (with_reducible refine Mine.wp_fold ?_); intro zqq zqe))) | (k_dflt (first | (refine' call_cls0 (by k_asm) (by k_asm) (by k_asm) (by k_is) (by k_is) ?_; k_whole; intro zqx zqd zqh zqF zqN zql1 zql2; (try ((have zqU := Mine.lts_up zql1 zql2); (dsimp +zetaDelta only [List.map] at zqU))); (try k_lt zql1); (try k_lt2 zql2); (try k_sweep)) | ((first | (refine' call_cls (by k_asm) (by k_asm) (by k_asm) (by k_is) (by k_is) (by k_is) ?_; k_whole; intro zqx zqd zqh zqF zqN zql1 zql2; (try ((have zqU := Mine.lts_up zql1 zql2); (dsimp +zetaDelta only [List.map] at zqU))); (try k_lt zql1); (try k_lt2 zql2); (try k_sweep)) | (refine' Mine.call_fn (by k_asm) (by k_is) ?_; k_whole) | (refine' call_meth (by k_asm) (by k_mem) ?_; k_whole) | refine wpAny_call ?_); (first | (refine' code_defL (by exact rfl) (by exact rfl) (by first | exact rfl | assumption) (by k_asm) (by k_asm) (by k_asm) (by k_asm) (by k_asm) (by k_is) (by k_is) (by decide) (by ktr_room) (by first | exact BindsTo.of_eq rfl | exact binds_K (by k_in) rfl (by k_is) rfl rfl rfl) (by exact locs rfl) (by exact rfl) (by exact rfl) (by exact rfl) ?_; k_whole; intro zqg zqL zqh zqtk zqFG zqF zqN zqB zqX zqT zqe zqA; (try k_lift zqB); (try ((fail_if_success (fail_if_success k_fold)); (with_reducible refine Mine.wp_fold ?_); intro zqq zqe))) | (refine' code_defCL (by exact rfl) (by exact rfl) (by exact rfl) (by k_asm) (by k_asm) (by k_asm) (by k_asm) (by k_asm) (by k_is) (by k_is) (by ktr_room) (by first | exact BindsTo.of_eq rfl | exact binds_K (by k_in) rfl (by k_is) rfl rfl rfl) (by exact rfl) (by decide +kernel) (by exact rfl) (by exact rfl) (by exact rfl) ?_; k_whole; intro zqg zqL zqh zqtk zqcells zqFG zqF zqN zqY zqB zqX zqT zql1 zqe zqA; (try k_lt zql1); k_cells zqY; (try simp only [List.cons_append, List.nil_append] at zqN); (try dsimp only); (try k_lift zqB); (try ((fail_if_success (fail_if_success k_fold)); (with_reducible refine Mine.wp_fold ?_); intro zqq zqe)))))))) | walk1 | (dsimp only; walk1) | ((with_reducible show wpAny _ _ _ _ _ _); dsimp only) | (leave1; walk_say "STEP leave1"; (first | (with_reducible refine (?_ : wpAny _ _ _ _ _ _)) | try dsimp only))))
        all_goals first | exact (Value.none : Value) | exact (Str.ofString "" : Str) | exact ((0 : Nat) : Addr) | skip
        rename Fr _ _ _ _ => F2
        rename News _ _ _ _ => N2
        rename _ ∨ _ => hz9
        refine' ret _ _ _ _ _ _ D' _ _ _ _ _ _ _ ys' _ _ ks _ ys'.length _ ((_, ({ cls := .type "tuple", data := .seq #[.ref _, .ref D'] _ } : Obj)) :: own9) _ _ _ _ _ _ _ _ _ _ _ _ _ _ _ _ ⟨.head _, .tail _ m1, .tail _ m2, .tail _ m3, .tail _ m4, .tail _ m5, ?z1, hik, ?z3, ?z4, ?z5, ?z6, ?z7, hok, hk3, hk4, hk5, nm_ok hz9, ?n1, ?n2, ?f1, ?f2, ?f3⟩ hk1 hk2 F2 ?eN
        case eN => (refine' cb_drop N2 (List.forall_mem_cons.mpr ⟨?q1, List.forall_mem_cons.mpr ⟨?q2, List.forall_mem_cons.mpr ⟨?q3, List.forall_mem_cons.mpr ⟨?q4, ?q5⟩⟩⟩⟩); (case q3 => k_mem); (case q1 => k_mem); (case q2 => k_mem); (case q4 => k_mem); (case q5 => exact fun q hq => .tail _ (.tail _ (.tail _ (.tail _ hq)))))
        case z1 => assumption
        case z3 => assumption
        case z4 => assumption
        case z5 => assumption
        case z6 => assumption
        case z7 => omega
        case n1 => k_ne
        case n2 => k_ne
        case f1 => exact List.forall_mem_cons.mpr ⟨by k_ne, o1⟩
        case f2 => exact List.forall_mem_cons.mpr ⟨by k_ne, o2⟩
        case f3 => exact List.forall_mem_cons.mpr ⟨by k_ne, o3⟩
  )) only [↓Mine.wrap_i]
end
/-- the law's own step of a column -/
def colF (w col code : Int) : Int := col + (if code = 9 then w - Int.fmod col w else if code = 1 then 2 else 1)
/-- the options' dict -/
abbrev optO (P : Params) (T : Nat → Tok) (w : Int) : Obj := dictOf [
  en P "tab_width" (T 0) (.int w (T 5)), en P "has_carets" (T 1) (.bool true), en P "truncates" (T 2) (.bool false), en P "wraps_words" (T 3) (.bool false), en P "hscroll" (T 4) (.int 0 (T 6))] 5
theorem q_int {Q : Value → Shared → Prop} {x y : Int} {t : Tok} {S : Shared} (h : Q (.int y t) S) (e : x = y) : Q (.int x t) S := e ▸ h
section
variable {prog : Program} {w : World} {p : Program} {loose : List Str} {mean : ExcName → Option Value} {mg mb : Str → Option Value} {dp un : Nat} {gd : Option (List Code)} {cn : Str} {cnm : List (Str × NameKind)} {cg cc : Bool} {cm : List (Str × Const)} {a : Addr} {ccd : Value} {cl : List (Str × Addr)} {outer : List Env} {A₀ : Around} {base h₀ : Heap} {L : Addr} {m : Str → Option Value} {s : Shared} {Q E : Value → Shared → Prop}

theorem width_ok {code col wd : Int} {t1 t2 : Tok} {T : Nat → Tok} {o od : Addr} {own : List (Addr × Obj)}
    (B : Below A₀ base outer h₀) (F : Fr h₀ L s.heap m) (X : (Mine.fr.heap_1_1 w.params).In h₀) (N : News h₀ L s.heap own) (TT : Top p loose mean mg mb h₀)
    (mo : (o, instObj 39 od) ∈ own) (mod : (od, optO w.params T wd) ∈ own) (hc : code = 97 ∨ code = 98 ∨ code = 9 ∨ code = 1) (hw1 : 2 ≤ wd) (hw2 : wd ≤ 8) (hcol : 0 ≤ col)
    (hd : dp + 10 < recursionLimit) (hu : un + 300 < cLine)
    (ret : ∀ t h' tk', Fr h₀ L h' m → News h₀ L h' own → Q (.int (colF wd col code - col) t) { s with heap := h', toks := tk' }) :
    wpAny (model prog w) (ktrTop dp un gd cn ⟨.function, cnm, cg, cc, cm⟩ L a ccd cl outer) (call (.ref (78 : Nat)) [.int code t1, .int col t2, .ref o]) Q E s := by
  refine Mine.unwrap ?_
  simp (disch := k_dflt (
  have _h : PySem.Challenge.rw_on0075_01 = PySem.Challenge.rw_on0075_01 ∧ Mine.fr.heap_1_1 = Mine.fr.heap_1_1 := by (k_fill; exact ⟨rfl, rfl⟩)
  clear _h
  w_top off
  have hf1 := Int.fmod_nonneg_of_pos col (b := wd) (by omega)
  have hf2 := Int.fmod_lt_of_pos col (b := wd) (by omega)
  rcases hc with rfl | rfl | rfl | rfl
  · have e : colF wd col 97 - col = 1 := by (simp [colF] <;> omega)
    rw [e] at ret
    repeat' ((first | ((fail_if_success (fail_if_success k_unfold)); (first | (with_reducible refine (?_ : wpAny _ _ _ _ _ _)) | (k_unfold; (try dsimp only)))) | ((fail_if_success (fail_if_success k_fold)); (first | (goal_has PySem.exec; (fail_if_success (fail_if_success (with_reducible show wpAny _ _ (exec _ _) _ _ _)))) | (goal_has PySem.Expr.BoolOp; (fail_if_success (fail_if_success (with_reducible show wpAny _ _ (eval (PySem.Expr.BoolOp _ _ _) _) _ _ _)))) | (goal_has PySem.Expr.Call; (fail_if_success (fail_if_success (with_reducible show wpAny _ _ (eval (PySem.Expr.Call _ _ _ _) _) _ _ _)))) | (goal_has PySem.Expr.Compare; (fail_if_success (fail_if_success (with_reducible show wpAny _ _ (eval (PySem.Expr.Compare _ _ _ _) _) _ _ _))))); (with_reducible refine Mine.wp_fold ?_); intro zqq zqe) | (goal_has PySem.Shared.mk; (with_reducible refine Mine.st_let ?_); intro zqs; goal_lacks PySem.Shared.mk) | ((ctx_mentions ite List.lookup); (rename Fr _ _ _ _ => zqF9); revert zqF9; (goal_has ite List.lookup); (with_reducible refine Mine.fr_let ?_); intro zqm; goal_lacks ite List.lookup; intro zqF) | ((ctx_mentions List.cons HAppend.hAppend List.append); (rename News _ _ _ _ => zqN9); (fail_if_success (fail_if_success (conv at zqN9 => arg 4; arg 2))); (with_reducible refine Mine.news_let zqN9 ?_); intro zql zqN; clear zqN9) | (k_end; wrow_close) | (goal_has binaryOp; ((fail_if_success (fail_if_success (with_reducible show wpAny _ _ (binaryOp Operator.Mult (Value.ref _) (Value.int _ _)) _ _ _))); k_dflt (refine' Mine.rep_list (by k_asm) (by k_asm) (by k_mem) (by first | decide | omega) (by first | decide | omega) ?_); intro zqD' zqh' zqws' zqzs' zqhzs' zqhzl' zqhzi' zqF' zqN' zql1; (try k_lt zql1); (try k_sweep))) | (goal_has PySem.Value.builtin; ((fail_if_success (fail_if_success (with_reducible show wpAny _ _ (call (Value.builtin "len") [Value.ref _]) _ _ _))); k_dflt (refine' kst_len (by k_asm) (by k_mem) (by exact IntsAre.length (by assumption)) (by omega) ?_; k_whole))) | (goal_has call; (fail_if_success (fail_if_success (with_reducible show wpAny _ _ (call (Value.ref _) _ _) _ _ _))); first | (k_dflt (first | (refine' call_cls0 (by k_asm) (by k_asm) (by k_asm) (by k_is) (by k_is) ?_; k_whole; intro zqx zqd zqh zqF zqN zql1 zql2; (try ((have zqU := Mine.lts_up zql1 zql2); (dsimp +zetaDelta only [List.map] at zqU))); (try k_lt zql1); (try k_lt2 zql2); (try k_sweep)) | ((first | (refine' call_cls (by k_asm) (by k_asm) (by k_asm) (by k_is) (by k_is) (by k_is) ?_; k_whole; intro zqx zqd zqh zqF zqN zql1 zql2; (try ((have zqU := Mine.lts_up zql1 zql2); (dsimp +zetaDelta only [List.map] at zqU))); (try k_lt zql1); (try k_lt2 zql2); (try k_sweep)) | (refine' Mine.call_fn (by k_asm) (by k_is) ?_; k_whole) | (refine' call_meth (by k_asm) (by k_mem) ?_; k_whole) | refine wpAny_call ?_); (first | (refine' code_defL (by exact rfl) (by exact rfl) (by first | exact rfl | assumption) (by k_asm) (by k_asm) (by k_asm) (by k_asm) (by k_asm) (by k_is) (by k_is) (by decide) (by ktr_room) (by first | exact BindsTo.of_eq rfl | exact binds_K (by k_in) rfl (by k_is) rfl rfl rfl) (by exact locs rfl) (by exact rfl) (by exact rfl) (by exact rfl) ?_; k_whole; intro zqg zqL zqh zqtk zqFG zqF zqN zqB zqX zqT zqe zqA; (try k_lift zqB); (try ((fail_if_success (fail_if_success k_fold)); (with_reducible refine Mine.wp_fold ?_); intro zqq zqe))) | (refine' code_defCL (by exact rfl) (by exact rfl) (by exact rfl) (by k_asm) (by k_asm) (by k_asm) (by k_asm) (by k_asm) (by k_is) (by k_is) (by ktr_room) (by first | exact BindsTo.of_eq rfl | exact binds_K (by k_in) rfl (by k_is) rfl rfl rfl) (by exact rfl) (by decide +kernel) (by exact rfl) (by exact rfl) (by exact rfl) ?_; k_whole; intro zqg zqL zqh zqtk zqcells zqFG zqF zqN zqY zqB zqX zqT zql1 zqe zqA; (try k_lt zql1); k_cells zqY; (try simp only [List.cons_append, List.nil_append] at zqN); (try dsimp only); (try k_lift zqB); (try ((fail_if_success (fail_if_success k_fold)); (with_reducible refine Mine.wp_fold ?_); intro zqq zqe)))))))) | walk1 | (dsimp only; walk1) | ((with_reducible show wpAny _ _ _ _ _ _); dsimp only) | (leave1; walk_say "STEP leave1"; (first | (with_reducible refine (?_ : wpAny _ _ _ _ _ _)) | try dsimp only))))
    all_goals exact ret _ _ _ (by k_asm) (by exact cb_drop (by assumption) (by kcj_all))
  · have e : colF wd col 98 - col = 1 := by (simp [colF] <;> omega)
    rw [e] at ret
    repeat' ((first | ((fail_if_success (fail_if_success k_unfold)); (first | (with_reducible refine (?_ : wpAny _ _ _ _ _ _)) | (k_unfold; (try dsimp only)))) | ((fail_if_success (fail_if_success k_fold)); (first | (goal_has PySem.exec; (fail_if_success (fail_if_success (with_reducible show wpAny _ _ (exec _ _) _ _ _)))) | (goal_has PySem.Expr.BoolOp; (fail_if_success (fail_if_success (with_reducible show wpAny _ _ (eval (PySem.Expr.BoolOp _ _ _) _) _ _ _)))) | (goal_has PySem.Expr.Call; (fail_if_success (fail_if_success (with_reducible show wpAny _ _ (eval (PySem.Expr.Call _ _ _ _) _) _ _ _)))) | (goal_has PySem.Expr.Compare; (fail_if_success (fail_if_success (with_reducible show wpAny _ _ (eval (PySem.Expr.Compare _ _ _ _) _) _ _ _))))); (with_reducible refine Mine.wp_fold ?_); intro zqq zqe) | (goal_has PySem.Shared.mk; (with_reducible refine Mine.st_let ?_); intro zqs; goal_lacks PySem.Shared.mk) | ((ctx_mentions ite List.lookup); (rename Fr _ _ _ _ => zqF9); revert zqF9; (goal_has ite List.lookup); (with_reducible refine Mine.fr_let ?_); intro zqm; goal_lacks ite List.lookup; intro zqF) | ((ctx_mentions List.cons HAppend.hAppend List.append); (rename News _ _ _ _ => zqN9); (fail_if_success (fail_if_success (conv at zqN9 => arg 4; arg 2))); (with_reducible refine Mine.news_let zqN9 ?_); intro zql zqN; clear zqN9) | (k_end; wrow_close) | (goal_has binaryOp; ((fail_if_success (fail_if_success (with_reducible show wpAny _ _ (binaryOp Operator.Mult (Value.ref _) (Value.int _ _)) _ _ _))); k_dflt (refine' Mine.rep_list (by k_asm) (by k_asm) (by k_mem) (by first | decide | omega) (by first | decide | omega) ?_); intro zqD' zqh' zqws' zqzs' zqhzs' zqhzl' zqhzi' zqF' zqN' zql1; (try k_lt zql1); (try k_sweep))) | (goal_has PySem.Value.builtin; ((fail_if_success (fail_if_success (with_reducible show wpAny _ _ (call (Value.builtin "len") [Value.ref _]) _ _ _))); k_dflt (refine' kst_len (by k_asm) (by k_mem) (by exact IntsAre.length (by assumption)) (by omega) ?_; k_whole))) | (goal_has call; (fail_if_success (fail_if_success (with_reducible show wpAny _ _ (call (Value.ref _) _ _) _ _ _))); first | (k_dflt (first | (refine' call_cls0 (by k_asm) (by k_asm) (by k_asm) (by k_is) (by k_is) ?_; k_whole; intro zqx zqd zqh zqF zqN zql1 zql2; (try ((have zqU := Mine.lts_up zql1 zql2); (dsimp +zetaDelta only [List.map] at zqU))); (try k_lt zql1); (try k_lt2 zql2); (try k_sweep)) | ((first | (refine' call_cls (by k_asm) (by k_asm) (by k_asm) (by k_is) (by k_is) (by k_is) ?_; k_whole; intro zqx zqd zqh zqF zqN zql1 zql2; (try ((have zqU := Mine.lts_up zql1 zql2); (dsimp +zetaDelta only [List.map] at zqU))); (try k_lt zql1); (try k_lt2 zql2); (try k_sweep)) | (refine' Mine.call_fn (by k_asm) (by k_is) ?_; k_whole) | (refine' call_meth (by k_asm) (by k_mem) ?_; k_whole) | refine wpAny_call ?_); (first | (refine' code_defL (by exact rfl) (by exact rfl) (by first | exact rfl | assumption) (by k_asm) (by k_asm) (by k_asm) (by k_asm) (by k_asm) (by k_is) (by k_is) (by decide) (by ktr_room) (by first | exact BindsTo.of_eq rfl | exact binds_K (by k_in) rfl (by k_is) rfl rfl rfl) (by exact locs rfl) (by exact rfl) (by exact rfl) (by exact rfl) ?_; k_whole; intro zqg zqL zqh zqtk zqFG zqF zqN zqB zqX zqT zqe zqA; (try k_lift zqB); (try ((fail_if_success (fail_if_success k_fold)); (with_reducible refine Mine.wp_fold ?_); intro zqq zqe))) | (refine' code_defCL (by exact rfl) (by exact rfl) (by exact rfl) (by k_asm) (by k_asm) (by k_asm) (by k_asm) (by k_asm) (by k_is) (by k_is) (by ktr_room) (by first | exact BindsTo.of_eq rfl | exact binds_K (by k_in) rfl (by k_is) rfl rfl rfl) (by exact rfl) (by decide +kernel) (by exact rfl) (by exact rfl) (by exact rfl) ?_; k_whole; intro zqg zqL zqh zqtk zqcells zqFG zqF zqN zqY zqB zqX zqT zql1 zqe zqA; (try k_lt zql1); k_cells zqY; (try simp only [List.cons_append, List.nil_append] at zqN); (try dsimp only); (try k_lift zqB); (try ((fail_if_success (fail_if_success k_fold)); (with_reducible refine Mine.wp_fold ?_); intro zqq zqe)))))))) | walk1 | (dsimp only; walk1) | ((with_reducible show wpAny _ _ _ _ _ _); dsimp only) | (leave1; walk_say "STEP leave1"; (first | (with_reducible refine (?_ : wpAny _ _ _ _ _ _)) | try dsimp only))))
    all_goals exact ret _ _ _ (by k_asm) (by exact cb_drop (by assumption) (by kcj_all))
  · have e : colF wd col 9 - col = wd - Int.fmod col wd := by (simp [colF] <;> omega)
    rw [e] at ret
    repeat' ((first | ((fail_if_success (fail_if_success k_unfold)); (first | (with_reducible refine (?_ : wpAny _ _ _ _ _ _)) | (k_unfold; (try dsimp only)))) | ((fail_if_success (fail_if_success k_fold)); (first | (goal_has PySem.exec; (fail_if_success (fail_if_success (with_reducible show wpAny _ _ (exec _ _) _ _ _)))) | (goal_has PySem.Expr.BoolOp; (fail_if_success (fail_if_success (with_reducible show wpAny _ _ (eval (PySem.Expr.BoolOp _ _ _) _) _ _ _)))) | (goal_has PySem.Expr.Call; (fail_if_success (fail_if_success (with_reducible show wpAny _ _ (eval (PySem.Expr.Call _ _ _ _) _) _ _ _)))) | (goal_has PySem.Expr.Compare; (fail_if_success (fail_if_success (with_reducible show wpAny _ _ (eval (PySem.Expr.Compare _ _ _ _) _) _ _ _))))); (with_reducible refine Mine.wp_fold ?_); intro zqq zqe) | (goal_has PySem.Shared.mk; (with_reducible refine Mine.st_let ?_); intro zqs; goal_lacks PySem.Shared.mk) | ((ctx_mentions ite List.lookup); (rename Fr _ _ _ _ => zqF9); revert zqF9; (goal_has ite List.lookup); (with_reducible refine Mine.fr_let ?_); intro zqm; goal_lacks ite List.lookup; intro zqF) | ((ctx_mentions List.cons HAppend.hAppend List.append); (rename News _ _ _ _ => zqN9); (fail_if_success (fail_if_success (conv at zqN9 => arg 4; arg 2))); (with_reducible refine Mine.news_let zqN9 ?_); intro zql zqN; clear zqN9) | (k_end; wrow_close) | (goal_has binaryOp; ((fail_if_success (fail_if_success (with_reducible show wpAny _ _ (binaryOp Operator.Mult (Value.ref _) (Value.int _ _)) _ _ _))); k_dflt (refine' Mine.rep_list (by k_asm) (by k_asm) (by k_mem) (by first | decide | omega) (by first | decide | omega) ?_); intro zqD' zqh' zqws' zqzs' zqhzs' zqhzl' zqhzi' zqF' zqN' zql1; (try k_lt zql1); (try k_sweep))) | (goal_has PySem.Value.builtin; ((fail_if_success (fail_if_success (with_reducible show wpAny _ _ (call (Value.builtin "len") [Value.ref _]) _ _ _))); k_dflt (refine' kst_len (by k_asm) (by k_mem) (by exact IntsAre.length (by assumption)) (by omega) ?_; k_whole))) | (goal_has call; (fail_if_success (fail_if_success (with_reducible show wpAny _ _ (call (Value.ref _) _ _) _ _ _))); first | (k_dflt (first | (refine' call_cls0 (by k_asm) (by k_asm) (by k_asm) (by k_is) (by k_is) ?_; k_whole; intro zqx zqd zqh zqF zqN zql1 zql2; (try ((have zqU := Mine.lts_up zql1 zql2); (dsimp +zetaDelta only [List.map] at zqU))); (try k_lt zql1); (try k_lt2 zql2); (try k_sweep)) | ((first | (refine' call_cls (by k_asm) (by k_asm) (by k_asm) (by k_is) (by k_is) (by k_is) ?_; k_whole; intro zqx zqd zqh zqF zqN zql1 zql2; (try ((have zqU := Mine.lts_up zql1 zql2); (dsimp +zetaDelta only [List.map] at zqU))); (try k_lt zql1); (try k_lt2 zql2); (try k_sweep)) | (refine' Mine.call_fn (by k_asm) (by k_is) ?_; k_whole) | (refine' call_meth (by k_asm) (by k_mem) ?_; k_whole) | refine wpAny_call ?_); (first | (refine' code_defL (by exact rfl) (by exact rfl) (by first | exact rfl | assumption) (by k_asm) (by k_asm) (by k_asm) (by k_asm) (by k_asm) (by k_is) (by k_is) (by decide) (by ktr_room) (by first | exact BindsTo.of_eq rfl | exact binds_K (by k_in) rfl (by k_is) rfl rfl rfl) (by exact locs rfl) (by exact rfl) (by exact rfl) (by exact rfl) ?_; k_whole; intro zqg zqL zqh zqtk zqFG zqF zqN zqB zqX zqT zqe zqA; (try k_lift zqB); (try ((fail_if_success (fail_if_success k_fold)); (with_reducible refine Mine.wp_fold ?_); intro zqq zqe))) | (refine' code_defCL (by exact rfl) (by exact rfl) (by exact rfl) (by k_asm) (by k_asm) (by k_asm) (by k_asm) (by k_asm) (by k_is) (by k_is) (by ktr_room) (by first | exact BindsTo.of_eq rfl | exact binds_K (by k_in) rfl (by k_is) rfl rfl rfl) (by exact rfl) (by decide +kernel) (by exact rfl) (by exact rfl) (by exact rfl) ?_; k_whole; intro zqg zqL zqh zqtk zqcells zqFG zqF zqN zqY zqB zqX zqT zql1 zqe zqA; (try k_lt zql1); k_cells zqY; (try simp only [List.cons_append, List.nil_append] at zqN); (try dsimp only); (try k_lift zqB); (try ((fail_if_success (fail_if_success k_fold)); (with_reducible refine Mine.wp_fold ?_); intro zqq zqe)))))))) | walk1 | (dsimp only; walk1) | ((with_reducible show wpAny _ _ _ _ _ _); dsimp only) | (leave1; walk_say "STEP leave1"; (first | (with_reducible refine (?_ : wpAny _ _ _ _ _ _)) | try dsimp only))))
    all_goals exact q_int (ret _ _ _ (by k_asm) (by exact cb_drop (by assumption) (by kcj_all))) (by omega)
  · have e : colF wd col 1 - col = 2 := by (simp [colF] <;> omega)
    rw [e] at ret
    repeat' ((first | ((fail_if_success (fail_if_success k_unfold)); (first | (with_reducible refine (?_ : wpAny _ _ _ _ _ _)) | (k_unfold; (try dsimp only)))) | ((fail_if_success (fail_if_success k_fold)); (first | (goal_has PySem.exec; (fail_if_success (fail_if_success (with_reducible show wpAny _ _ (exec _ _) _ _ _)))) | (goal_has PySem.Expr.BoolOp; (fail_if_success (fail_if_success (with_reducible show wpAny _ _ (eval (PySem.Expr.BoolOp _ _ _) _) _ _ _)))) | (goal_has PySem.Expr.Call; (fail_if_success (fail_if_success (with_reducible show wpAny _ _ (eval (PySem.Expr.Call _ _ _ _) _) _ _ _)))) | (goal_has PySem.Expr.Compare; (fail_if_success (fail_if_success (with_reducible show wpAny _ _ (eval (PySem.Expr.Compare _ _ _ _) _) _ _ _))))); (with_reducible refine Mine.wp_fold ?_); intro zqq zqe) | (goal_has PySem.Shared.mk; (with_reducible refine Mine.st_let ?_); intro zqs; goal_lacks PySem.Shared.mk) | ((ctx_mentions ite List.lookup); (rename Fr _ _ _ _ => zqF9); revert zqF9; (goal_has ite List.lookup); (with_reducible refine Mine.fr_let ?_); intro zqm; goal_lacks ite List.lookup; intro zqF) | ((ctx_mentions List.cons HAppend.hAppend List.append); (rename News _ _ _ _ => zqN9); (fail_if_success (fail_if_success (conv at zqN9 => arg 4; arg 2))); (with_reducible refine Mine.news_let zqN9 ?_); intro zql zqN; clear zqN9) | (k_end; wrow_close) | (goal_has binaryOp; ((fail_if_success (fail_if_success (with_reducible show wpAny _ _ (binaryOp Operator.Mult (Value.ref _) (Value.int _ _)) _ _ _))); k_dflt (refine' Mine.rep_list (by k_asm) (by k_asm) (by k_mem) (by first | decide | omega) (by first | decide | omega) ?_); intro zqD' zqh' zqws' zqzs' zqhzs' zqhzl' zqhzi' zqF' zqN' zql1; (try k_lt zql1); (try k_sweep))) | (goal_has PySem.Value.builtin; ((fail_if_success (fail_if_success (with_reducible show wpAny _ _ (call (Value.builtin "len") [Value.ref _]) _ _ _))); k_dflt (refine' kst_len (by k_asm) (by k_mem) (by exact IntsAre.length (by assumption)) (by omega) ?_; k_whole))) | (goal_has call; (fail_if_success (fail_if_success (with_reducible show wpAny _ _ (call (Value.ref _) _ _) _ _ _))); first | (k_dflt (first | (refine' call_cls0 (by k_asm) (by k_asm) (by k_asm) (by k_is) (by k_is) ?_; k_whole; intro zqx zqd zqh zqF zqN zql1 zql2; (try ((have zqU := Mine.lts_up zql1 zql2); (dsimp +zetaDelta only [List.map] at zqU))); (try k_lt zql1); (try k_lt2 zql2); (try k_sweep)) | ((first | (refine' call_cls (by k_asm) (by k_asm) (by k_asm) (by k_is) (by k_is) (by k_is) ?_; k_whole; intro zqx zqd zqh zqF zqN zql1 zql2; (try ((have zqU := Mine.lts_up zql1 zql2); (dsimp +zetaDelta only [List.map] at zqU))); (try k_lt zql1); (try k_lt2 zql2); (try k_sweep)) | (refine' Mine.call_fn (by k_asm) (by k_is) ?_; k_whole) | (refine' call_meth (by k_asm) (by k_mem) ?_; k_whole) | refine wpAny_call ?_); (first | (refine' code_defL (by exact rfl) (by exact rfl) (by first | exact rfl | assumption) (by k_asm) (by k_asm) (by k_asm) (by k_asm) (by k_asm) (by k_is) (by k_is) (by decide) (by ktr_room) (by first | exact BindsTo.of_eq rfl | exact binds_K (by k_in) rfl (by k_is) rfl rfl rfl) (by exact locs rfl) (by exact rfl) (by exact rfl) (by exact rfl) ?_; k_whole; intro zqg zqL zqh zqtk zqFG zqF zqN zqB zqX zqT zqe zqA; (try k_lift zqB); (try ((fail_if_success (fail_if_success k_fold)); (with_reducible refine Mine.wp_fold ?_); intro zqq zqe))) | (refine' code_defCL (by exact rfl) (by exact rfl) (by exact rfl) (by k_asm) (by k_asm) (by k_asm) (by k_asm) (by k_asm) (by k_is) (by k_is) (by ktr_room) (by first | exact BindsTo.of_eq rfl | exact binds_K (by k_in) rfl (by k_is) rfl rfl rfl) (by exact rfl) (by decide +kernel) (by exact rfl) (by exact rfl) (by exact rfl) ?_; k_whole; intro zqg zqL zqh zqtk zqcells zqFG zqF zqN zqY zqB zqX zqT zql1 zqe zqA; (try k_lt zql1); k_cells zqY; (try simp only [List.cons_append, List.nil_append] at zqN); (try dsimp only); (try k_lift zqB); (try ((fail_if_success (fail_if_success k_fold)); (with_reducible refine Mine.wp_fold ?_); intro zqq zqe)))))))) | walk1 | (dsimp only; walk1) | ((with_reducible show wpAny _ _ _ _ _ _); dsimp only) | (leave1; walk_say "STEP leave1"; (first | (with_reducible refine (?_ : wpAny _ _ _ _ _ _)) | try dsimp only))))
    all_goals exact ret _ _ _ (by k_asm) (by exact cb_drop (by assumption) (by kcj_all))
  )) only [↓Mine.wrap_i]
end
theorem colF_nonneg (w : Int) {col : Int} (h : 0 ≤ col) (hw : 2 ≤ w) (code : Int) : 0 ≤ colF w col code := by
  unfold colF
  have hf2 := Int.fmod_lt_of_pos col (b := w) (by omega)
  split
  · omega
  · split <;> omega
section
variable {prog : Program} {w : World} {p : Program} {loose : List Str} {mean : ExcName → Option Value} {mg mb : Str → Option Value} {dp un : Nat} {gd : Option (List Code)} {cn : Str} {cnm : List (Str × NameKind)} {cg cc : Bool} {cm : List (Str × Const)} {a : Addr} {ccd : Value} {cl : List (Str × Addr)} {outer : List Env} {A₀ : Around} {base h₀ : Heap} {L : Addr} {m : Str → Option Value} {s : Shared} {Q E : Value → Shared → Prop}

theorem columns_ok {wd : Int} {T : Nat → Tok} {o od l : Addr} {nn : Nat} {vs : List Value} {ns : List Int} {own : List (Addr × Obj)}
    (B : Below A₀ base outer h₀) (F : Fr h₀ L s.heap m) (X : (Mine.fr.heap_1_1 w.params).In h₀) (N : News h₀ L s.heap own) (TT : Top p loose mean mg mb h₀)
    (mo : (o, instObj 39 od) ∈ own) (mod : (od, optO w.params T wd) ∈ own) (ml : (l, listOf vs.toArray nn) ∈ own) (hi : IntsAre vs ns) (hc : ∀ code ∈ ns, code = 97 ∨ code = 98 ∨ code = 9 ∨ code = 1) (hw1 : 2 ≤ wd) (hw2 : wd ≤ 8)
    (hd : dp + 20 < recursionLimit) (hu : un + 400 < cLine)
    (ret : ∀ t h' tk', Fr h₀ L h' m → News h₀ L h' own → Q (.int (ns.foldl (colF wd) 0) t) { s with heap := h', toks := tk' }) :
    wpAny (model prog w) (ktrTop dp un gd cn ⟨.function, cnm, cg, cc, cm⟩ L a ccd cl outer) (call (.ref (85 : Nat)) [.ref l, .ref o]) Q E s := by
  refine Mine.unwrap ?_
  simp (disch := k_dflt (
  have _h : PySem.Challenge.rw_on0075_01 = PySem.Challenge.rw_on0075_01 ∧ Mine.fr.heap_1_1 = Mine.fr.heap_1_1 := by (k_fill; exact ⟨rfl, rfl⟩)
  clear _h
  w_top off
  have hiT : IntsAre vs ns ∧ True := ⟨hi, trivial⟩
  repeat' ((first | ((fail_if_success (fail_if_success k_unfold)); (first | (with_reducible refine (?_ : wpAny _ _ _ _ _ _)) | (k_unfold; (try dsimp only)))) | ((fail_if_success (fail_if_success k_fold)); (first | (goal_has PySem.exec; (fail_if_success (fail_if_success (with_reducible show wpAny _ _ (exec _ _) _ _ _)))) | (goal_has PySem.Expr.BoolOp; (fail_if_success (fail_if_success (with_reducible show wpAny _ _ (eval (PySem.Expr.BoolOp _ _ _) _) _ _ _)))) | (goal_has PySem.Expr.Call; (fail_if_success (fail_if_success (with_reducible show wpAny _ _ (eval (PySem.Expr.Call _ _ _ _) _) _ _ _)))) | (goal_has PySem.Expr.Compare; (fail_if_success (fail_if_success (with_reducible show wpAny _ _ (eval (PySem.Expr.Compare _ _ _ _) _) _ _ _))))); (with_reducible refine Mine.wp_fold ?_); intro zqq zqe) | (goal_has PySem.Shared.mk; (with_reducible refine Mine.st_let ?_); intro zqs; goal_lacks PySem.Shared.mk) | ((ctx_mentions ite List.lookup); (rename Fr _ _ _ _ => zqF9); revert zqF9; (goal_has ite List.lookup); (with_reducible refine Mine.fr_let ?_); intro zqm; goal_lacks ite List.lookup; intro zqF) | ((ctx_mentions List.cons HAppend.hAppend List.append); (rename News _ _ _ _ => zqN9); (fail_if_success (fail_if_success (conv at zqN9 => arg 4; arg 2))); (with_reducible refine Mine.news_let zqN9 ?_); intro zql zqN; clear zqN9) | (k_end; wrow_close) | (goal_has PySem.Stmt.For; ((fail_if_success (fail_if_success (with_reducible show wpAny _ _ (exec (PySem.Stmt.For (PySem.Expr.Name _ _) (PySem.Expr.Name _ _) (_ :: _) [] _) _) _ _ _))); (rename Fr _ _ _ _ => lF'); (with_unfolding_all refine' For_invVF lF' (by exact rfl) (by exact rfl) ?_; k_whole))) | (goal_has call; (fail_if_success (fail_if_success (with_reducible show wpAny _ _ (call (Value.ref _) _ _) _ _ _))); first | ((fail_if_success (fail_if_success (with_reducible show wpAny _ _ (call (Value.ref (78 : Nat)) [Value.int _ _, Value.int _ _, Value.ref _]) _ _ _))); k_dflt (refine' Mine.width_ok (by k_asm) (by k_asm) (by k_asm) (by k_asm) (by k_asm) (by k_mem) (by k_mem) (by assumption) (by first | assumption | omega) (by first | assumption | omega) (by first | assumption | omega) (by ktr_room) (by ktr_units) ?_); intro zqt' zqh' zqtk' zqF' zqN'; (try k_sweep); (try dsimp only); (try ((fail_if_success (fail_if_success k_fold)); (with_reducible refine Mine.wp_fold ?_); intro zqq zqe))) | (k_dflt (first | (refine' call_cls0 (by k_asm) (by k_asm) (by k_asm) (by k_is) (by k_is) ?_; k_whole; intro zqx zqd zqh zqF zqN zql1 zql2; (try ((have zqU := Mine.lts_up zql1 zql2); (dsimp +zetaDelta only [List.map] at zqU))); (try k_lt zql1); (try k_lt2 zql2); (try k_sweep)) | ((first | (refine' call_cls (by k_asm) (by k_asm) (by k_asm) (by k_is) (by k_is) (by k_is) ?_; k_whole; intro zqx zqd zqh zqF zqN zql1 zql2; (try ((have zqU := Mine.lts_up zql1 zql2); (dsimp +zetaDelta only [List.map] at zqU))); (try k_lt zql1); (try k_lt2 zql2); (try k_sweep)) | (refine' Mine.call_fn (by k_asm) (by k_is) ?_; k_whole) | (refine' call_meth (by k_asm) (by k_mem) ?_; k_whole) | refine wpAny_call ?_); (first | (refine' code_defL (by exact rfl) (by exact rfl) (by first | exact rfl | assumption) (by k_asm) (by k_asm) (by k_asm) (by k_asm) (by k_asm) (by k_is) (by k_is) (by decide) (by ktr_room) (by first | exact BindsTo.of_eq rfl | exact binds_K (by k_in) rfl (by k_is) rfl rfl rfl) (by exact locs rfl) (by exact rfl) (by exact rfl) (by exact rfl) ?_; k_whole; intro zqg zqL zqh zqtk zqFG zqF zqN zqB zqX zqT zqe zqA; (try k_lift zqB); (try ((fail_if_success (fail_if_success k_fold)); (with_reducible refine Mine.wp_fold ?_); intro zqq zqe))) | (refine' code_defCL (by exact rfl) (by exact rfl) (by exact rfl) (by k_asm) (by k_asm) (by k_asm) (by k_asm) (by k_asm) (by k_is) (by k_is) (by ktr_room) (by first | exact BindsTo.of_eq rfl | exact binds_K (by k_in) rfl (by k_is) rfl rfl rfl) (by exact rfl) (by decide +kernel) (by exact rfl) (by exact rfl) (by exact rfl) ?_; k_whole; intro zqg zqL zqh zqtk zqcells zqFG zqF zqN zqY zqB zqX zqT zql1 zqe zqA; (try k_lt zql1); k_cells zqY; (try simp only [List.cons_append, List.nil_append] at zqN); (try dsimp only); (try k_lift zqB); (try ((fail_if_success (fail_if_success k_fold)); (with_reducible refine Mine.wp_fold ?_); intro zqq zqe)))))))) | walk1 | (dsimp only; walk1) | ((with_reducible show wpAny _ _ _ _ _ _); dsimp only) | (leave1; walk_say "STEP leave1"; (first | (with_reducible refine (?_ : wpAny _ _ _ _ _ _)) | try dsimp only))))
  rename Fr _ _ _ _ => F'
  rename News _ _ _ _ => N'
  obtain ⟨t0, ht0⟩ := fr_int (x := Str.ofString "column") (k := 0) F' rfl
  refine' list_led (σ := Int × Tok) (fun _ => own) (fun c => [(Str.ofString "column", .int c.1 c.2), (Str.ofString "options", .ref o)]) (fun i c => c.1 = (ns.take i).foldl (colF wd) 0 ∧ 0 ≤ c.1) (0, t0) rfl (fun _ => ml) F' N' (all_cons ht0 (all_cons (fr_at F' rfl) all_nil)) ⟨rfl, Int.le_refl 0⟩ ?_ ?_
  · clear ht0 F' N'
    intro i v c u I oI h tk hv hj F' N' off
    obtain ⟨hc1, hc0⟩ := hj
    obtain ⟨code, t, rfl, hn⟩ := IntsAre.at hiT.1 i v hv
    have hcode := hc code (List.mem_of_getElem? hn)
    have hnn := colF_nonneg wd hc0 hw1 code
    repeat' ((first | ((fail_if_success (fail_if_success k_unfold)); (first | (with_reducible refine (?_ : wpAny _ _ _ _ _ _)) | (k_unfold; (try dsimp only)))) | ((fail_if_success (fail_if_success k_fold)); (first | (goal_has PySem.exec; (fail_if_success (fail_if_success (with_reducible show wpAny _ _ (exec _ _) _ _ _)))) | (goal_has PySem.Expr.BoolOp; (fail_if_success (fail_if_success (with_reducible show wpAny _ _ (eval (PySem.Expr.BoolOp _ _ _) _) _ _ _)))) | (goal_has PySem.Expr.Call; (fail_if_success (fail_if_success (with_reducible show wpAny _ _ (eval (PySem.Expr.Call _ _ _ _) _) _ _ _)))) | (goal_has PySem.Expr.Compare; (fail_if_success (fail_if_success (with_reducible show wpAny _ _ (eval (PySem.Expr.Compare _ _ _ _) _) _ _ _))))); (with_reducible refine Mine.wp_fold ?_); intro zqq zqe) | (goal_has PySem.Shared.mk; (with_reducible refine Mine.st_let ?_); intro zqs; goal_lacks PySem.Shared.mk) | ((ctx_mentions ite List.lookup); (rename Fr _ _ _ _ => zqF9); revert zqF9; (goal_has ite List.lookup); (with_reducible refine Mine.fr_let ?_); intro zqm; goal_lacks ite List.lookup; intro zqF) | ((ctx_mentions List.cons HAppend.hAppend List.append); (rename News _ _ _ _ => zqN9); (fail_if_success (fail_if_success (conv at zqN9 => arg 4; arg 2))); (with_reducible refine Mine.news_let zqN9 ?_); intro zql zqN; clear zqN9) | (k_end; wrow_close) | (goal_has PySem.Stmt.For; ((fail_if_success (fail_if_success (with_reducible show wpAny _ _ (exec (PySem.Stmt.For (PySem.Expr.Name _ _) (PySem.Expr.Name _ _) (_ :: _) [] _) _) _ _ _))); (rename Fr _ _ _ _ => lF'); (with_unfolding_all refine' For_invVF lF' (by exact rfl) (by exact rfl) ?_; k_whole))) | (goal_has call; (fail_if_success (fail_if_success (with_reducible show wpAny _ _ (call (Value.ref _) _ _) _ _ _))); first | ((fail_if_success (fail_if_success (with_reducible show wpAny _ _ (call (Value.ref (78 : Nat)) [Value.int _ _, Value.int _ _, Value.ref _]) _ _ _))); k_dflt (refine' Mine.width_ok (by k_asm) (by k_asm) (by k_asm) (by k_asm) (by k_asm) (by k_mem) (by k_mem) (by assumption) (by first | assumption | omega) (by first | assumption | omega) (by first | assumption | omega) (by ktr_room) (by ktr_units) ?_); intro zqt' zqh' zqtk' zqF' zqN'; (try k_sweep); (try dsimp only); (try ((fail_if_success (fail_if_success k_fold)); (with_reducible refine Mine.wp_fold ?_); intro zqq zqe))) | (k_dflt (first | (refine' call_cls0 (by k_asm) (by k_asm) (by k_asm) (by k_is) (by k_is) ?_; k_whole; intro zqx zqd zqh zqF zqN zql1 zql2; (try ((have zqU := Mine.lts_up zql1 zql2); (dsimp +zetaDelta only [List.map] at zqU))); (try k_lt zql1); (try k_lt2 zql2); (try k_sweep)) | ((first | (refine' call_cls (by k_asm) (by k_asm) (by k_asm) (by k_is) (by k_is) (by k_is) ?_; k_whole; intro zqx zqd zqh zqF zqN zql1 zql2; (try ((have zqU := Mine.lts_up zql1 zql2); (dsimp +zetaDelta only [List.map] at zqU))); (try k_lt zql1); (try k_lt2 zql2); (try k_sweep)) | (refine' Mine.call_fn (by k_asm) (by k_is) ?_; k_whole) | (refine' call_meth (by k_asm) (by k_mem) ?_; k_whole) | refine wpAny_call ?_); (first | (refine' code_defL (by exact rfl) (by exact rfl) (by first | exact rfl | assumption) (by k_asm) (by k_asm) (by k_asm) (by k_asm) (by k_asm) (by k_is) (by k_is) (by decide) (by ktr_room) (by first | exact BindsTo.of_eq rfl | exact binds_K (by k_in) rfl (by k_is) rfl rfl rfl) (by exact locs rfl) (by exact rfl) (by exact rfl) (by exact rfl) ?_; k_whole; intro zqg zqL zqh zqtk zqFG zqF zqN zqB zqX zqT zqe zqA; (try k_lift zqB); (try ((fail_if_success (fail_if_success k_fold)); (with_reducible refine Mine.wp_fold ?_); intro zqq zqe))) | (refine' code_defCL (by exact rfl) (by exact rfl) (by exact rfl) (by k_asm) (by k_asm) (by k_asm) (by k_asm) (by k_asm) (by k_is) (by k_is) (by ktr_room) (by first | exact BindsTo.of_eq rfl | exact binds_K (by k_in) rfl (by k_is) rfl rfl rfl) (by exact rfl) (by decide +kernel) (by exact rfl) (by exact rfl) (by exact rfl) ?_; k_whole; intro zqg zqL zqh zqtk zqcells zqFG zqF zqN zqY zqB zqX zqT zql1 zqe zqA; (try k_lt zql1); k_cells zqY; (try simp only [List.cons_append, List.nil_append] at zqN); (try dsimp only); (try k_lift zqB); (try ((fail_if_success (fail_if_success k_fold)); (with_reducible refine Mine.wp_fold ?_); intro zqq zqe)))))))) | walk1 | (dsimp only; walk1) | ((with_reducible show wpAny _ _ _ _ _ _); dsimp only) | (leave1; walk_say "STEP leave1"; (first | (with_reducible refine (?_ : wpAny _ _ _ _ _ _)) | try dsimp only))))
    all_goals (rename Fr _ _ _ _ => F9; rename News _ _ _ _ => N9; obtain ⟨t9, ht9⟩ := fr_int (x := Str.ofString "column") F9 rfl; refine led_next (_, t9) F9 N9 (all_cons ht9 (all_cons rfl all_nil)) (fun _ h => h) off ⟨?_, ?_⟩)
    · rw [get_split hn, List.foldl_append, ← hc1]
      show _ = colF wd c.1 code
      omega
    · dsimp only
      omega
  · clear ht0 F' N'
    intro c u h tk hj F' N'
    obtain ⟨hc1, hc0⟩ := hj
    rw [hiT.1.length, List.take_length] at hc1
    repeat' ((first | ((fail_if_success (fail_if_success k_unfold)); (first | (with_reducible refine (?_ : wpAny _ _ _ _ _ _)) | (k_unfold; (try dsimp only)))) | ((fail_if_success (fail_if_success k_fold)); (first | (goal_has PySem.exec; (fail_if_success (fail_if_success (with_reducible show wpAny _ _ (exec _ _) _ _ _)))) | (goal_has PySem.Expr.BoolOp; (fail_if_success (fail_if_success (with_reducible show wpAny _ _ (eval (PySem.Expr.BoolOp _ _ _) _) _ _ _)))) | (goal_has PySem.Expr.Call; (fail_if_success (fail_if_success (with_reducible show wpAny _ _ (eval (PySem.Expr.Call _ _ _ _) _) _ _ _)))) | (goal_has PySem.Expr.Compare; (fail_if_success (fail_if_success (with_reducible show wpAny _ _ (eval (PySem.Expr.Compare _ _ _ _) _) _ _ _))))); (with_reducible refine Mine.wp_fold ?_); intro zqq zqe) | (goal_has PySem.Shared.mk; (with_reducible refine Mine.st_let ?_); intro zqs; goal_lacks PySem.Shared.mk) | ((ctx_mentions ite List.lookup); (rename Fr _ _ _ _ => zqF9); revert zqF9; (goal_has ite List.lookup); (with_reducible refine Mine.fr_let ?_); intro zqm; goal_lacks ite List.lookup; intro zqF) | ((ctx_mentions List.cons HAppend.hAppend List.append); (rename News _ _ _ _ => zqN9); (fail_if_success (fail_if_success (conv at zqN9 => arg 4; arg 2))); (with_reducible refine Mine.news_let zqN9 ?_); intro zql zqN; clear zqN9) | (k_end; wrow_close) | (goal_has PySem.Stmt.For; ((fail_if_success (fail_if_success (with_reducible show wpAny _ _ (exec (PySem.Stmt.For (PySem.Expr.Name _ _) (PySem.Expr.Name _ _) (_ :: _) [] _) _) _ _ _))); (rename Fr _ _ _ _ => lF'); (with_unfolding_all refine' For_invVF lF' (by exact rfl) (by exact rfl) ?_; k_whole))) | (goal_has call; (fail_if_success (fail_if_success (with_reducible show wpAny _ _ (call (Value.ref _) _ _) _ _ _))); first | ((fail_if_success (fail_if_success (with_reducible show wpAny _ _ (call (Value.ref (78 : Nat)) [Value.int _ _, Value.int _ _, Value.ref _]) _ _ _))); k_dflt (refine' Mine.width_ok (by k_asm) (by k_asm) (by k_asm) (by k_asm) (by k_asm) (by k_mem) (by k_mem) (by assumption) (by first | assumption | omega) (by first | assumption | omega) (by first | assumption | omega) (by ktr_room) (by ktr_units) ?_); intro zqt' zqh' zqtk' zqF' zqN'; (try k_sweep); (try dsimp only); (try ((fail_if_success (fail_if_success k_fold)); (with_reducible refine Mine.wp_fold ?_); intro zqq zqe))) | (k_dflt (first | (refine' call_cls0 (by k_asm) (by k_asm) (by k_asm) (by k_is) (by k_is) ?_; k_whole; intro zqx zqd zqh zqF zqN zql1 zql2; (try ((have zqU := Mine.lts_up zql1 zql2); (dsimp +zetaDelta only [List.map] at zqU))); (try k_lt zql1); (try k_lt2 zql2); (try k_sweep)) | ((first | (refine' call_cls (by k_asm) (by k_asm) (by k_asm) (by k_is) (by k_is) (by k_is) ?_; k_whole; intro zqx zqd zqh zqF zqN zql1 zql2; (try ((have zqU := Mine.lts_up zql1 zql2); (dsimp +zetaDelta only [List.map] at zqU))); (try k_lt zql1); (try k_lt2 zql2); (try k_sweep)) | (refine' Mine.call_fn (by k_asm) (by k_is) ?_; k_whole) | (refine' call_meth (by k_asm) (by k_mem) ?_; k_whole) | refine wpAny_call ?_); (first | (refine' code_defL (by exact rfl) (by exact rfl) (by first | exact rfl | assumption) (by k_asm) (by k_asm) (by k_asm) (by k_asm) (by k_asm) (by k_is) (by k_is) (by decide) (by ktr_room) (by first | exact BindsTo.of_eq rfl | exact binds_K (by k_in) rfl (by k_is) rfl rfl rfl) (by exact locs rfl) (by exact rfl) (by exact rfl) (by exact rfl) ?_; k_whole; intro zqg zqL zqh zqtk zqFG zqF zqN zqB zqX zqT zqe zqA; (try k_lift zqB); (try ((fail_if_success (fail_if_success k_fold)); (with_reducible refine Mine.wp_fold ?_); intro zqq zqe))) | (refine' code_defCL (by exact rfl) (by exact rfl) (by exact rfl) (by k_asm) (by k_asm) (by k_asm) (by k_asm) (by k_asm) (by k_is) (by k_is) (by ktr_room) (by first | exact BindsTo.of_eq rfl | exact binds_K (by k_in) rfl (by k_is) rfl rfl rfl) (by exact rfl) (by decide +kernel) (by exact rfl) (by exact rfl) (by exact rfl) ?_; k_whole; intro zqg zqL zqh zqtk zqcells zqFG zqF zqN zqY zqB zqX zqT zql1 zqe zqA; (try k_lt zql1); k_cells zqY; (try simp only [List.cons_append, List.nil_append] at zqN); (try dsimp only); (try k_lift zqB); (try ((fail_if_success (fail_if_success k_fold)); (with_reducible refine Mine.wp_fold ?_); intro zqq zqe)))))))) | walk1 | (dsimp only; walk1) | ((with_reducible show wpAny _ _ _ _ _ _); dsimp only) | (leave1; walk_say "STEP leave1"; (first | (with_reducible refine (?_ : wpAny _ _ _ _ _ _)) | try dsimp only))))
    all_goals exact q_int (ret _ _ _ (by k_asm) (by exact cb_drop (by assumption) (by kcj_all))) hc1
  )) only [↓Mine.wrap_i]
end
section
variable {prog : Program} {w : World} {p : Program} {loose : List Str} {mean : ExcName → Option Value} {mg mb : Str → Option Value} {dp un : Nat} {gd : Option (List Code)} {cn : Str} {cnm : List (Str × NameKind)} {cg cc : Bool} {cm : List (Str × Const)} {a : Addr} {ccd : Value} {cl : List (Str × Addr)} {outer : List Env} {A₀ : Around} {base h₀ : Heap} {L : Addr} {m : Str → Option Value} {s : Shared} {Q E : Value → Shared → Prop}

theorem lcol_ok {wd : Int} {tw : Tok} {l : Addr} {nn : Nat} {vs : List Value} {ns : List Int} {own : List (Addr × Obj)}
    (B : Below A₀ base outer h₀) (F : Fr h₀ L s.heap m) (X : (Mine.fr.heap_1_1 w.params).In h₀) (N : News h₀ L s.heap own) (TT : Top p loose mean mg mb h₀)
    (ml : (l, listOf vs.toArray nn) ∈ own) (hi : IntsAre vs ns) (hw1 : 2 ≤ wd) (hw2 : wd ≤ 8)
    (hd : dp + 10 < recursionLimit) (hu : un + 300 < cLine)
    (ret : ∀ t h' tk', Fr h₀ L h' m → News h₀ L h' own → Q (.int (ns.foldl (colF wd) 0) t) { s with heap := h', toks := tk' }) :
    wpAny (model prog w) (ktrTop dp un gd cn ⟨.function, cnm, cg, cc, cm⟩ L a ccd cl outer) (call (.ref (1044 : Nat)) [.ref l, .int wd tw]) Q E s := by
  refine Mine.unwrap ?_
  simp (disch := k_dflt (
  have _h : PySem.Challenge.rw_on0075_01 = PySem.Challenge.rw_on0075_01 ∧ Mine.fr.heap_1_1 = Mine.fr.heap_1_1 := by (k_fill; exact ⟨rfl, rfl⟩)
  clear _h
  w_top off
  have hiT : IntsAre vs ns ∧ True := ⟨hi, trivial⟩
  repeat' ((first | ((fail_if_success (fail_if_success k_unfold)); (first | (with_reducible refine (?_ : wpAny _ _ _ _ _ _)) | (k_unfold; (try dsimp only)))) | ((fail_if_success (fail_if_success k_fold)); (first | (goal_has PySem.exec; (fail_if_success (fail_if_success (with_reducible show wpAny _ _ (exec _ _) _ _ _)))) | (goal_has PySem.Expr.BoolOp; (fail_if_success (fail_if_success (with_reducible show wpAny _ _ (eval (PySem.Expr.BoolOp _ _ _) _) _ _ _)))) | (goal_has PySem.Expr.Call; (fail_if_success (fail_if_success (with_reducible show wpAny _ _ (eval (PySem.Expr.Call _ _ _ _) _) _ _ _)))) | (goal_has PySem.Expr.Compare; (fail_if_success (fail_if_success (with_reducible show wpAny _ _ (eval (PySem.Expr.Compare _ _ _ _) _) _ _ _))))); (with_reducible refine Mine.wp_fold ?_); intro zqq zqe) | (goal_has PySem.Shared.mk; (with_reducible refine Mine.st_let ?_); intro zqs; goal_lacks PySem.Shared.mk) | ((ctx_mentions ite List.lookup); (rename Fr _ _ _ _ => zqF9); revert zqF9; (goal_has ite List.lookup); (with_reducible refine Mine.fr_let ?_); intro zqm; goal_lacks ite List.lookup; intro zqF) | ((ctx_mentions List.cons HAppend.hAppend List.append); (rename News _ _ _ _ => zqN9); (fail_if_success (fail_if_success (conv at zqN9 => arg 4; arg 2))); (with_reducible refine Mine.news_let zqN9 ?_); intro zql zqN; clear zqN9) | (k_end; wrow_close) | (goal_has PySem.Stmt.For; ((fail_if_success (fail_if_success (with_reducible show wpAny _ _ (exec (PySem.Stmt.For (PySem.Expr.Name _ _) (PySem.Expr.Name _ _) (_ :: _) [] _) _) _ _ _))); (rename Fr _ _ _ _ => lF'); (with_unfolding_all refine' For_invVF lF' (by exact rfl) (by exact rfl) ?_; k_whole))) | (goal_has call; (fail_if_success (fail_if_success (with_reducible show wpAny _ _ (call (Value.ref _) _ _) _ _ _))); first | (k_dflt (first | (refine' call_cls0 (by k_asm) (by k_asm) (by k_asm) (by k_is) (by k_is) ?_; k_whole; intro zqx zqd zqh zqF zqN zql1 zql2; (try ((have zqU := Mine.lts_up zql1 zql2); (dsimp +zetaDelta only [List.map] at zqU))); (try k_lt zql1); (try k_lt2 zql2); (try k_sweep)) | ((first | (refine' call_cls (by k_asm) (by k_asm) (by k_asm) (by k_is) (by k_is) (by k_is) ?_; k_whole; intro zqx zqd zqh zqF zqN zql1 zql2; (try ((have zqU := Mine.lts_up zql1 zql2); (dsimp +zetaDelta only [List.map] at zqU))); (try k_lt zql1); (try k_lt2 zql2); (try k_sweep)) | (refine' Mine.call_fn (by k_asm) (by k_is) ?_; k_whole) | (refine' call_meth (by k_asm) (by k_mem) ?_; k_whole) | refine wpAny_call ?_); (first | (refine' code_defL (by exact rfl) (by exact rfl) (by first | exact rfl | assumption) (by k_asm) (by k_asm) (by k_asm) (by k_asm) (by k_asm) (by k_is) (by k_is) (by decide) (by ktr_room) (by first | exact BindsTo.of_eq rfl | exact binds_K (by k_in) rfl (by k_is) rfl rfl rfl) (by exact locs rfl) (by exact rfl) (by exact rfl) (by exact rfl) ?_; k_whole; intro zqg zqL zqh zqtk zqFG zqF zqN zqB zqX zqT zqe zqA; (try k_lift zqB); (try ((fail_if_success (fail_if_success k_fold)); (with_reducible refine Mine.wp_fold ?_); intro zqq zqe))) | (refine' code_defCL (by exact rfl) (by exact rfl) (by exact rfl) (by k_asm) (by k_asm) (by k_asm) (by k_asm) (by k_asm) (by k_is) (by k_is) (by ktr_room) (by first | exact BindsTo.of_eq rfl | exact binds_K (by k_in) rfl (by k_is) rfl rfl rfl) (by exact rfl) (by decide +kernel) (by exact rfl) (by exact rfl) (by exact rfl) ?_; k_whole; intro zqg zqL zqh zqtk zqcells zqFG zqF zqN zqY zqB zqX zqT zql1 zqe zqA; (try k_lt zql1); k_cells zqY; (try simp only [List.cons_append, List.nil_append] at zqN); (try dsimp only); (try k_lift zqB); (try ((fail_if_success (fail_if_success k_fold)); (with_reducible refine Mine.wp_fold ?_); intro zqq zqe)))))))) | walk1 | (dsimp only; walk1) | ((with_reducible show wpAny _ _ _ _ _ _); dsimp only) | (leave1; walk_say "STEP leave1"; (first | (with_reducible refine (?_ : wpAny _ _ _ _ _ _)) | try dsimp only))))
  rename Fr _ _ _ _ => F'
  rename News _ _ _ _ => N'
  obtain ⟨t0, ht0⟩ := fr_int (x := Str.ofString "column") (k := 0) F' rfl
  refine' list_led (σ := Int × Tok) (fun _ => own) (fun c => [(Str.ofString "column", .int c.1 c.2), (Str.ofString "width", .int wd tw)]) (fun i c => c.1 = (ns.take i).foldl (colF wd) 0 ∧ 0 ≤ c.1) (0, t0) rfl (fun _ => ml) F' N' (all_cons ht0 (all_cons (fr_at F' rfl) all_nil)) ⟨rfl, Int.le_refl 0⟩ ?_ ?_
  · clear ht0 F' N'
    intro i v c u I oI h tk hv hj F' N' off
    obtain ⟨hc1, hc0⟩ := hj
    obtain ⟨code, t, rfl, hn⟩ := IntsAre.at hiT.1 i v hv
    have hnn := colF_nonneg wd hc0 hw1 code
    have hbr : ∀ z : Int, ((code = 9 → z = c.1 + (wd - Int.fmod c.1 wd)) ∧ (code = 1 → z = c.1 + 2) ∧ (code ≠ 9 → code ≠ 1 → z = c.1 + 1)) → z = (ns.take (i + 1)).foldl (colF wd) 0 ∧ 0 ≤ z := by
      intro z hz
      have e : z = colF wd c.1 code := by
        unfold colF
        split
        · exact hz.1 (by assumption)
        · split
          · exact hz.2.1 (by assumption)
          · exact hz.2.2 (by assumption) (by assumption)
      rw [get_split hn, List.foldl_append, ← hc1]
      exact ⟨e, e ▸ hnn⟩
    repeat' ((first | ((fail_if_success (fail_if_success k_unfold)); (first | (with_reducible refine (?_ : wpAny _ _ _ _ _ _)) | (k_unfold; (try dsimp only)))) | ((fail_if_success (fail_if_success k_fold)); (first | (goal_has PySem.exec; (fail_if_success (fail_if_success (with_reducible show wpAny _ _ (exec _ _) _ _ _)))) | (goal_has PySem.Expr.BoolOp; (fail_if_success (fail_if_success (with_reducible show wpAny _ _ (eval (PySem.Expr.BoolOp _ _ _) _) _ _ _)))) | (goal_has PySem.Expr.Call; (fail_if_success (fail_if_success (with_reducible show wpAny _ _ (eval (PySem.Expr.Call _ _ _ _) _) _ _ _)))) | (goal_has PySem.Expr.Compare; (fail_if_success (fail_if_success (with_reducible show wpAny _ _ (eval (PySem.Expr.Compare _ _ _ _) _) _ _ _))))); (with_reducible refine Mine.wp_fold ?_); intro zqq zqe) | (goal_has PySem.Shared.mk; (with_reducible refine Mine.st_let ?_); intro zqs; goal_lacks PySem.Shared.mk) | ((ctx_mentions ite List.lookup); (rename Fr _ _ _ _ => zqF9); revert zqF9; (goal_has ite List.lookup); (with_reducible refine Mine.fr_let ?_); intro zqm; goal_lacks ite List.lookup; intro zqF) | ((ctx_mentions List.cons HAppend.hAppend List.append); (rename News _ _ _ _ => zqN9); (fail_if_success (fail_if_success (conv at zqN9 => arg 4; arg 2))); (with_reducible refine Mine.news_let zqN9 ?_); intro zql zqN; clear zqN9) | (k_end; wrow_close) | (goal_has PySem.Stmt.For; ((fail_if_success (fail_if_success (with_reducible show wpAny _ _ (exec (PySem.Stmt.For (PySem.Expr.Name _ _) (PySem.Expr.Name _ _) (_ :: _) [] _) _) _ _ _))); (rename Fr _ _ _ _ => lF'); (with_unfolding_all refine' For_invVF lF' (by exact rfl) (by exact rfl) ?_; k_whole))) | (goal_has call; (fail_if_success (fail_if_success (with_reducible show wpAny _ _ (call (Value.ref _) _ _) _ _ _))); first | (k_dflt (first | (refine' call_cls0 (by k_asm) (by k_asm) (by k_asm) (by k_is) (by k_is) ?_; k_whole; intro zqx zqd zqh zqF zqN zql1 zql2; (try ((have zqU := Mine.lts_up zql1 zql2); (dsimp +zetaDelta only [List.map] at zqU))); (try k_lt zql1); (try k_lt2 zql2); (try k_sweep)) | ((first | (refine' call_cls (by k_asm) (by k_asm) (by k_asm) (by k_is) (by k_is) (by k_is) ?_; k_whole; intro zqx zqd zqh zqF zqN zql1 zql2; (try ((have zqU := Mine.lts_up zql1 zql2); (dsimp +zetaDelta only [List.map] at zqU))); (try k_lt zql1); (try k_lt2 zql2); (try k_sweep)) | (refine' Mine.call_fn (by k_asm) (by k_is) ?_; k_whole) | (refine' call_meth (by k_asm) (by k_mem) ?_; k_whole) | refine wpAny_call ?_); (first | (refine' code_defL (by exact rfl) (by exact rfl) (by first | exact rfl | assumption) (by k_asm) (by k_asm) (by k_asm) (by k_asm) (by k_asm) (by k_is) (by k_is) (by decide) (by ktr_room) (by first | exact BindsTo.of_eq rfl | exact binds_K (by k_in) rfl (by k_is) rfl rfl rfl) (by exact locs rfl) (by exact rfl) (by exact rfl) (by exact rfl) ?_; k_whole; intro zqg zqL zqh zqtk zqFG zqF zqN zqB zqX zqT zqe zqA; (try k_lift zqB); (try ((fail_if_success (fail_if_success k_fold)); (with_reducible refine Mine.wp_fold ?_); intro zqq zqe))) | (refine' code_defCL (by exact rfl) (by exact rfl) (by exact rfl) (by k_asm) (by k_asm) (by k_asm) (by k_asm) (by k_asm) (by k_is) (by k_is) (by ktr_room) (by first | exact BindsTo.of_eq rfl | exact binds_K (by k_in) rfl (by k_is) rfl rfl rfl) (by exact rfl) (by decide +kernel) (by exact rfl) (by exact rfl) (by exact rfl) ?_; k_whole; intro zqg zqL zqh zqtk zqcells zqFG zqF zqN zqY zqB zqX zqT zql1 zqe zqA; (try k_lt zql1); k_cells zqY; (try simp only [List.cons_append, List.nil_append] at zqN); (try dsimp only); (try k_lift zqB); (try ((fail_if_success (fail_if_success k_fold)); (with_reducible refine Mine.wp_fold ?_); intro zqq zqe)))))))) | walk1 | (dsimp only; walk1) | ((with_reducible show wpAny _ _ _ _ _ _); dsimp only) | (leave1; walk_say "STEP leave1"; (first | (with_reducible refine (?_ : wpAny _ _ _ _ _ _)) | try dsimp only))))
    all_goals (rename Fr _ _ _ _ => F9; rename News _ _ _ _ => N9; obtain ⟨t9, ht9⟩ := fr_int (x := Str.ofString "column") F9 rfl; refine led_next (_, t9) F9 N9 (all_cons ht9 (all_cons rfl all_nil)) (fun _ h => h) off (hbr _ ?_); (simp only [decide_eq_true_eq, decide_eq_false_iff_not] at *); (try dsimp only); (refine ⟨fun hx9 => ?_, fun hx9 => ?_, fun hx9 hy9 => ?_⟩ <;> first | exact True.intro | omega))
  · clear ht0 F' N'
    intro c u h tk hj F' N'
    obtain ⟨hc1, hc0⟩ := hj
    rw [hiT.1.length, List.take_length] at hc1
    repeat' ((first | ((fail_if_success (fail_if_success k_unfold)); (first | (with_reducible refine (?_ : wpAny _ _ _ _ _ _)) | (k_unfold; (try dsimp only)))) | ((fail_if_success (fail_if_success k_fold)); (first | (goal_has PySem.exec; (fail_if_success (fail_if_success (with_reducible show wpAny _ _ (exec _ _) _ _ _)))) | (goal_has PySem.Expr.BoolOp; (fail_if_success (fail_if_success (with_reducible show wpAny _ _ (eval (PySem.Expr.BoolOp _ _ _) _) _ _ _)))) | (goal_has PySem.Expr.Call; (fail_if_success (fail_if_success (with_reducible show wpAny _ _ (eval (PySem.Expr.Call _ _ _ _) _) _ _ _)))) | (goal_has PySem.Expr.Compare; (fail_if_success (fail_if_success (with_reducible show wpAny _ _ (eval (PySem.Expr.Compare _ _ _ _) _) _ _ _))))); (with_reducible refine Mine.wp_fold ?_); intro zqq zqe) | (goal_has PySem.Shared.mk; (with_reducible refine Mine.st_let ?_); intro zqs; goal_lacks PySem.Shared.mk) | ((ctx_mentions ite List.lookup); (rename Fr _ _ _ _ => zqF9); revert zqF9; (goal_has ite List.lookup); (with_reducible refine Mine.fr_let ?_); intro zqm; goal_lacks ite List.lookup; intro zqF) | ((ctx_mentions List.cons HAppend.hAppend List.append); (rename News _ _ _ _ => zqN9); (fail_if_success (fail_if_success (conv at zqN9 => arg 4; arg 2))); (with_reducible refine Mine.news_let zqN9 ?_); intro zql zqN; clear zqN9) | (k_end; wrow_close) | (goal_has PySem.Stmt.For; ((fail_if_success (fail_if_success (with_reducible show wpAny _ _ (exec (PySem.Stmt.For (PySem.Expr.Name _ _) (PySem.Expr.Name _ _) (_ :: _) [] _) _) _ _ _))); (rename Fr _ _ _ _ => lF'); (with_unfolding_all refine' For_invVF lF' (by exact rfl) (by exact rfl) ?_; k_whole))) | (goal_has call; (fail_if_success (fail_if_success (with_reducible show wpAny _ _ (call (Value.ref _) _ _) _ _ _))); first | (k_dflt (first | (refine' call_cls0 (by k_asm) (by k_asm) (by k_asm) (by k_is) (by k_is) ?_; k_whole; intro zqx zqd zqh zqF zqN zql1 zql2; (try ((have zqU := Mine.lts_up zql1 zql2); (dsimp +zetaDelta only [List.map] at zqU))); (try k_lt zql1); (try k_lt2 zql2); (try k_sweep)) | ((first | (refine' call_cls (by k_asm) (by k_asm) (by k_asm) (by k_is) (by k_is) (by k_is) ?_; k_whole; intro zqx zqd zqh zqF zqN zql1 zql2; (try ((have zqU := Mine.lts_up zql1 zql2); (dsimp +zetaDelta only [List.map] at zqU))); (try k_lt zql1); (try k_lt2 zql2); (try k_sweep)) | (refine' Mine.call_fn (by k_asm) (by k_is) ?_; k_whole) | (refine' call_meth (by k_asm) (by k_mem) ?_; k_whole) | refine wpAny_call ?_); (first | (refine' code_defL (by exact rfl) (by exact rfl) (by first | exact rfl | assumption) (by k_asm) (by k_asm) (by k_asm) (by k_asm) (by k_asm) (by k_is) (by k_is) (by decide) (by ktr_room) (by first | exact BindsTo.of_eq rfl | exact binds_K (by k_in) rfl (by k_is) rfl rfl rfl) (by exact locs rfl) (by exact rfl) (by exact rfl) (by exact rfl) ?_; k_whole; intro zqg zqL zqh zqtk zqFG zqF zqN zqB zqX zqT zqe zqA; (try k_lift zqB); (try ((fail_if_success (fail_if_success k_fold)); (with_reducible refine Mine.wp_fold ?_); intro zqq zqe))) | (refine' code_defCL (by exact rfl) (by exact rfl) (by exact rfl) (by k_asm) (by k_asm) (by k_asm) (by k_asm) (by k_asm) (by k_is) (by k_is) (by ktr_room) (by first | exact BindsTo.of_eq rfl | exact binds_K (by k_in) rfl (by k_is) rfl rfl rfl) (by exact rfl) (by decide +kernel) (by exact rfl) (by exact rfl) (by exact rfl) ?_; k_whole; intro zqg zqL zqh zqtk zqcells zqFG zqF zqN zqY zqB zqX zqT zql1 zqe zqA; (try k_lt zql1); k_cells zqY; (try simp only [List.cons_append, List.nil_append] at zqN); (try dsimp only); (try k_lift zqB); (try ((fail_if_success (fail_if_success k_fold)); (with_reducible refine Mine.wp_fold ?_); intro zqq zqe)))))))) | walk1 | (dsimp only; walk1) | ((with_reducible show wpAny _ _ _ _ _ _); dsimp only) | (leave1; walk_say "STEP leave1"; (first | (with_reducible refine (?_ : wpAny _ _ _ _ _ _)) | try dsimp only))))
    all_goals exact q_int (ret _ _ _ (by k_asm) (by exact cb_drop (by assumption) (by kcj_all))) hc1
  )) only [↓Mine.wrap_i]
end
/-- the signs behind the last newline -/
def tlF (l : List Int) : List Int := l.foldl (fun z c => if c = 10 then [] else z ++ [c]) []
/-- the lines -/
def nlF (l : List Int) : Int := 1 + ((l.filter fun c => c == 10).length : Int)
theorem tlF_foldl (l : List Int) : ∀ z : List Int, l.foldl (fun z c => if c = 10 then [] else z ++ [c]) z = if 10 ∈ l then tlF l else z ++ l := by
  induction l with
  | nil => intro z; simp
  | cons x r ih =>
    intro z
    have e : tlF (x :: r) = if 10 ∈ r then tlF r else (if x = 10 then [] else [] ++ [x]) ++ r := ih _
    rw [List.foldl_cons, ih, e]
    by_cases hx : x = 10
    · subst hx
      simp
    · by_cases hr : (10 : Int) ∈ r
      · simp [hr]
      · simp [hx, hr, Ne.symm hx, List.append_assoc]
theorem tlF_none {l : List Int} (h : (10 : Int) ∉ l) : tlF l = l := by
  unfold tlF
  rw [tlF_foldl, if_neg h]
  rfl
theorem tlF_cut {pre post : List Int} : tlF (pre ++ 10 :: post) = tlF post := by
  unfold tlF
  rw [List.foldl_append, List.foldl_cons, if_pos rfl]
theorem tlF_snoc (l : List Int) (c : Int) : tlF (l ++ [c]) = if c = 10 then [] else tlF l ++ [c] := by
  unfold tlF
  rw [List.foldl_append]
  rfl
theorem nlF_snoc (l : List Int) (c : Int) : nlF (l ++ [c]) = if c = 10 then nlF l + 1 else nlF l := by
  unfold nlF
  by_cases h : c = 10
  · subst h; simp [Int.add_assoc]
  · simp [List.filter_append, h]
theorem tlF_mem0 {x : Int} : ∀ (l z : List Int), x ∈ l.foldl (fun z c => if c = 10 then [] else z ++ [c]) z → x ∈ z ∨ (x ∈ l ∧ x ≠ 10)
  | [], z, h => .inl h
  | c :: r, z, h => by
    rcases tlF_mem0 r _ h with h | h
    · dsimp only at h
      split at h
      · exact absurd h (List.not_mem_nil)
      · rcases List.mem_append.mp h with h | h
        · exact .inl h
        · rw [List.mem_singleton.mp h]
          exact .inr ⟨.head _, by assumption⟩
    · exact .inr ⟨.tail _ h.1, h.2⟩
theorem tlF_mem {l : List Int} {x : Int} (h : x ∈ tlF l) : x ∈ l ∧ x ≠ 10 := (tlF_mem0 l [] h).resolve_left (List.not_mem_nil)
theorem cut_step {z0 zz pad : List Int} (ez : zz = z0 ++ pad) {bv : Int} {i : Nat} (h1 : 1 ≤ bv) (h2 : bv - 1 + (i : Int) < (z0.length : Int)) :
    cut z0 (bv - 1) (bv - 1 + ((i + 1 : Nat) : Int)) = cut z0 (bv - 1) (bv - 1 + (i : Int)) ++ [zz.getD (bv + (i : Int) - 1).toNat 0] := by
  obtain ⟨b, hb⟩ := Int.eq_ofNat_of_zero_le (Int.sub_nonneg_of_le h1)
  have e3 : bv + (i : Int) - 1 = ((b + i : Nat) : Int) := by rw [Int.natCast_add, ← hb, Int.sub_eq_add_neg, Int.sub_eq_add_neg, Int.add_right_comm]
  rw [hb, ← Int.natCast_add] at h2
  have h3 : b + i < z0.length := Int.ofNat_lt.mp h2
  rw [hb, e3, ← Int.natCast_add, ← Int.natCast_add]
  unfold cut
  rw [Int.toNat_natCast, Int.toNat_natCast, Int.toNat_natCast, Nat.min_eq_left (Nat.le_of_lt h3), Nat.min_eq_left (show b + (i + 1) ≤ z0.length from h3), Nat.add_sub_cancel_left, Nat.add_sub_cancel_left,
    List.take_add_one, List.getElem?_drop, ez, List.getD_eq_getElem?_getD, List.getElem?_append_left h3, List.getElem?_eq_getElem h3]
  rfl
theorem cut_zero (z0 : List Int) (bv : Int) : cut z0 (bv - 1) (bv - 1 + ((0 : Nat) : Int)) = [] := by
  unfold cut
  rw [Nat.sub_eq_zero_of_le (Nat.le_trans (Nat.min_le_left _ _) (by rw [Int.natCast_zero, Int.add_zero]; exact Nat.le_refl _))]
  rfl
theorem tlF_len0 : ∀ (l z : List Int), (l.foldl (fun z c => if c = 10 then [] else z ++ [c]) z).length ≤ z.length + l.length
  | [], z => Nat.le_refl _
  | c :: r, z => by
    have h := tlF_len0 r (if c = 10 then [] else z ++ [c])
    rw [List.foldl_cons, List.length_cons]
    refine Nat.le_trans h ?_
    split
    · simp only [List.length_nil]; omega
    · simp only [List.length_append, List.length_singleton]; omega
theorem tlF_len (l : List Int) : (tlF l).length ≤ l.length := Nat.le_trans (tlF_len0 l []) (by simp only [List.length_nil]; omega)
section
variable {prog : Program} {w : World} {p : Program} {loose : List Str} {mean : ExcName → Option Value} {mg mb : Str → Option Value} {dp un : Nat} {gd : Option (List Code)} {cn : Str} {cnm : List (Str × NameKind)} {cg cc : Bool} {cm : List (Str × Const)} {a : Addr} {ccd : Value} {cl : List (Str × Addr)} {outer : List Env} {A₀ : Around} {base h₀ : Heap} {L : Addr} {m : Str → Option Value} {s : Shared} {Q E : Value → Shared → Prop}

theorem line_ok {low point : Int} {t1 t2 : Tok} {cd : Addr} {nn : Nat} {vs : List Value} {ns : List Int} {own : List (Addr × Obj)}
    (B : Below A₀ base outer h₀) (F : Fr h₀ L s.heap m) (X : (Mine.fr.heap_1_1 w.params).In h₀) (N : News h₀ L s.heap own) (TT : Top p loose mean mg mb h₀)
    (ml : (cd, listOf vs.toArray nn) ∈ own) (hi : IntsAre vs ns) (hlen : ns.length ≤ 20) (hl1 : 1 ≤ low) (hl2 : low ≤ point) (hl3 : point ≤ (ns.length : Int) + 1)
    (hd : dp + 10 < recursionLimit) (hu : un + 300 < cLine)
    (ret : ∀ tp ah t ws zs n1 n2 h' tk', zs = tlF (cut ns (low - 1) (point - 1)) → IntsAre ws zs → (∀ q ∈ own, q.1 < ah) → @LT.lt Nat _ ah tp → Fr h₀ L h' m →
      News h₀ L h' ((tp, ({ cls := .type "tuple", data := .seq #[.int (nlF (cut ns (low - 1) (point - 1))) t, .ref ah] n1 } : Obj)) :: (ah, listOf (List.toArray ws) n2) :: own) → Q (.ref tp) { s with heap := h', toks := tk' }) :
    wpAny (model prog w) (ktrTop dp un gd cn ⟨.function, cnm, cg, cc, cm⟩ L a ccd cl outer) (call (.ref (1049 : Nat)) [.ref cd, .int low t1, .int point t2]) Q E s := by
  refine Mine.unwrap ?_
  simp (disch := k_dflt (
  have _h : PySem.Challenge.rw_on0075_01 = PySem.Challenge.rw_on0075_01 ∧ Mine.fr.heap_1_1 = Mine.fr.heap_1_1 := by (k_fill; exact ⟨rfl, rfl⟩)
  clear _h
  w_top off
  have hiT : IntsAre vs ns ∧ True := ⟨hi, trivial⟩
  repeat' ((fail_if_success (with_reducible show wpAny _ _ (exec (PySem.Stmt.While _ _ _ _) _) _ _ _)); ((first | ((fail_if_success (fail_if_success k_unfold)); (first | (with_reducible refine (?_ : wpAny _ _ _ _ _ _)) | (k_unfold; (try dsimp only)))) | ((fail_if_success (fail_if_success k_fold)); (first | (goal_has PySem.exec; (fail_if_success (fail_if_success (with_reducible show wpAny _ _ (exec _ _) _ _ _)))) | (goal_has PySem.Expr.BoolOp; (fail_if_success (fail_if_success (with_reducible show wpAny _ _ (eval (PySem.Expr.BoolOp _ _ _) _) _ _ _)))) | (goal_has PySem.Expr.Call; (fail_if_success (fail_if_success (with_reducible show wpAny _ _ (eval (PySem.Expr.Call _ _ _ _) _) _ _ _)))) | (goal_has PySem.Expr.Compare; (fail_if_success (fail_if_success (with_reducible show wpAny _ _ (eval (PySem.Expr.Compare _ _ _ _) _) _ _ _))))); (with_reducible refine Mine.wp_fold ?_); intro zqq zqe) | (goal_has PySem.Shared.mk; (with_reducible refine Mine.st_let ?_); intro zqs; goal_lacks PySem.Shared.mk) | ((ctx_mentions ite List.lookup); (rename Fr _ _ _ _ => zqF9); revert zqF9; (goal_has ite List.lookup); (with_reducible refine Mine.fr_let ?_); intro zqm; goal_lacks ite List.lookup; intro zqF) | ((ctx_mentions List.cons HAppend.hAppend List.append); (rename News _ _ _ _ => zqN9); (fail_if_success (fail_if_success (conv at zqN9 => arg 4; arg 2))); (with_reducible refine Mine.news_let zqN9 ?_); intro zql zqN; clear zqN9) | (k_end; wrow_close) | (goal_has subscriptTail; first | ((fail_if_success (fail_if_success (with_reducible show wpAny _ _ (subscriptTail _ (PySem.Expr.Slice _ none none _) (Value.ref _) (Value.ref _)) _ _ _))); k_dflt (refine' Mine.cut_from (r := 24) (by k_asm) (by k_asm) (by k_mem) (by exact IsPart.int _ _) (by first | decide | omega) (by assumption) (by first | assumption | omega) (by decide) ?_ (by with_unfolding_all rfl) (by kmk_pure)); intro zqD' zqh' zqws' zqzs' zqhzs' zqhzl' zqhzi' zqF' zqN' zql1; (try k_lt zql1); (try k_sweep)) | ((fail_if_success (fail_if_success (with_reducible show wpAny _ _ (subscriptTail _ (PySem.Expr.Slice _ _ none _) (Value.ref _) (Value.ref _)) _ _ _))); k_dflt (refine' Mine.cut_slice (by k_asm) (by k_asm) (by k_mem) (by exact IsPart.int _ _) (by exact IsPart.int _ _) (by first | decide | omega) (by first | decide | omega) (by assumption) (by first | assumption | exact rfl) (by omega) ?_ (by with_unfolding_all rfl) (by kmk_pure)); intro zqD' zqh' zqws' zqzs' zqhzs' zqhzl' zqhzi' zqF' zqN' zql1; (try k_lt zql1); (try k_sweep))) | (goal_has PySem.Value.builtin; first | ((fail_if_success (fail_if_success (with_reducible show wpAny _ _ (call (Value.builtin _) [Value.ref _, Value.int _ _]) _ _ _))); k_dflt (refine' Mine.index_ints (by k_asm) (by k_mem) (by assumption) (by first | assumption | omega) (by assumption) ?_); intro zqi' zqhi0' zqhi1') | ((fail_if_success (fail_if_success (with_reducible show wpAny _ _ (call (Value.builtin "len") [Value.ref _]) _ _ _))); k_dflt (refine' Mine.len_filter (by assumption) (by assumption) (by first | assumption | omega) ?_; k_whole))) | (goal_has call; (fail_if_success (fail_if_success (with_reducible show wpAny _ _ (call (Value.ref _) _ _) _ _ _))); first | (k_dflt (first | (refine' call_cls0 (by k_asm) (by k_asm) (by k_asm) (by k_is) (by k_is) ?_; k_whole; intro zqx zqd zqh zqF zqN zql1 zql2; (try ((have zqU := Mine.lts_up zql1 zql2); (dsimp +zetaDelta only [List.map] at zqU))); (try k_lt zql1); (try k_lt2 zql2); (try k_sweep)) | ((first | (refine' call_cls (by k_asm) (by k_asm) (by k_asm) (by k_is) (by k_is) (by k_is) ?_; k_whole; intro zqx zqd zqh zqF zqN zql1 zql2; (try ((have zqU := Mine.lts_up zql1 zql2); (dsimp +zetaDelta only [List.map] at zqU))); (try k_lt zql1); (try k_lt2 zql2); (try k_sweep)) | (refine' Mine.call_fn (by k_asm) (by k_is) ?_; k_whole) | (refine' call_meth (by k_asm) (by k_mem) ?_; k_whole) | refine wpAny_call ?_); (first | (refine' code_defL (by exact rfl) (by exact rfl) (by first | exact rfl | assumption) (by k_asm) (by k_asm) (by k_asm) (by k_asm) (by k_asm) (by k_is) (by k_is) (by decide) (by ktr_room) (by first | exact BindsTo.of_eq rfl | exact binds_K (by k_in) rfl (by k_is) rfl rfl rfl) (by exact locs rfl) (by exact rfl) (by exact rfl) (by exact rfl) ?_; k_whole; intro zqg zqL zqh zqtk zqFG zqF zqN zqB zqX zqT zqe zqA; (try k_lift zqB); (try ((fail_if_success (fail_if_success k_fold)); (with_reducible refine Mine.wp_fold ?_); intro zqq zqe))) | (refine' code_defCL (by exact rfl) (by exact rfl) (by exact rfl) (by k_asm) (by k_asm) (by k_asm) (by k_asm) (by k_asm) (by k_is) (by k_is) (by ktr_room) (by first | exact BindsTo.of_eq rfl | exact binds_K (by k_in) rfl (by k_is) rfl rfl rfl) (by exact rfl) (by decide +kernel) (by exact rfl) (by exact rfl) (by exact rfl) ?_; k_whole; intro zqg zqL zqh zqtk zqcells zqFG zqF zqN zqY zqB zqX zqT zql1 zqe zqA; (try k_lt zql1); k_cells zqY; (try simp only [List.cons_append, List.nil_append] at zqN); (try dsimp only); (try k_lift zqB); (try ((fail_if_success (fail_if_success k_fold)); (with_reducible refine Mine.wp_fold ?_); intro zqq zqe)))))))) | walk1 | (dsimp only; walk1) | ((with_reducible show wpAny _ _ _ _ _ _); dsimp only) | (leave1; walk_say "STEP leave1"; (first | (with_reducible refine (?_ : wpAny _ _ _ _ _ _)) | try dsimp only)))))
  rename Fr _ _ _ _ => F'
  rename News _ _ _ _ => N'
  rename _ = cut _ _ _ => hzs
  rename IntsAre _ _ => hzi
  have hnl : ∀ z, z = cut ns (low - 1) (point - 1) → 1 + ((z.filter fun c => c == 10).length : Int) = nlF (cut ns (low - 1) (point - 1)) := fun z h => by rw [h]; rfl
  have hcl := cut_length ns (low - 1) (point - 1)
  obtain ⟨t0, ht0⟩ := fr_int (x := Str.ofString "lines") F' rfl
  rw [hnl _ hzs] at ht0
  refine' while_led (σ := Addr × List Value × List Int × Nat) (fun c => (c.1, listOf c.2.1.toArray c.2.2.2) :: own) (fun c => [(Str.ofString "lines", .int (nlF (cut ns (low - 1) (point - 1))) t0), (Str.ofString "ahead", .ref c.1)])
    (fun c => IntsAre c.2.1 c.2.2.1 ∧ tlF c.2.2.1 = tlF (cut ns (low - 1) (point - 1)) ∧ c.2.2.1.length ≤ 20 ∧ ∀ q ∈ own, q.1 < c.1) (fun c => c.2.2.1.length) (_, _, _, 0) F' N' (all_cons ht0 (all_cons (fr_at F' rfl) all_nil)) ⟨hzi, ?h2, ?h3, ?h4⟩ ?_
  case h2 => exact congrArg tlF hzs
  case h3 => dsimp only; omega
  case h4 => first | assumption | exact kst_ltOf (by assumption)
  clear ht0 F' N' hzi hzs
  intro c u h tk hj F' N'
  obtain ⟨ah, ws, zs, n9⟩ := c
  obtain ⟨hzi, htl, hzl, hlt⟩ := hj
  dsimp only at hzi htl hzl hlt F' N' ⊢
  have hah : @LT.lt Nat _ ah h.objs.size := Heap.lt_size (N' _ (.head _)).1
  repeat' ((first | ((fail_if_success (fail_if_success k_unfold)); (first | (with_reducible refine (?_ : wpAny _ _ _ _ _ _)) | (k_unfold; (try dsimp only)))) | ((fail_if_success (fail_if_success k_fold)); (first | (goal_has PySem.exec; (fail_if_success (fail_if_success (with_reducible show wpAny _ _ (exec _ _) _ _ _)))) | (goal_has PySem.Expr.BoolOp; (fail_if_success (fail_if_success (with_reducible show wpAny _ _ (eval (PySem.Expr.BoolOp _ _ _) _) _ _ _)))) | (goal_has PySem.Expr.Call; (fail_if_success (fail_if_success (with_reducible show wpAny _ _ (eval (PySem.Expr.Call _ _ _ _) _) _ _ _)))) | (goal_has PySem.Expr.Compare; (fail_if_success (fail_if_success (with_reducible show wpAny _ _ (eval (PySem.Expr.Compare _ _ _ _) _) _ _ _))))); (with_reducible refine Mine.wp_fold ?_); intro zqq zqe) | (goal_has PySem.Shared.mk; (with_reducible refine Mine.st_let ?_); intro zqs; goal_lacks PySem.Shared.mk) | ((ctx_mentions ite List.lookup); (rename Fr _ _ _ _ => zqF9); revert zqF9; (goal_has ite List.lookup); (with_reducible refine Mine.fr_let ?_); intro zqm; goal_lacks ite List.lookup; intro zqF) | ((ctx_mentions List.cons HAppend.hAppend List.append); (rename News _ _ _ _ => zqN9); (fail_if_success (fail_if_success (conv at zqN9 => arg 4; arg 2))); (with_reducible refine Mine.news_let zqN9 ?_); intro zql zqN; clear zqN9) | (k_end; wrow_close) | (goal_has subscriptTail; first | ((fail_if_success (fail_if_success (with_reducible show wpAny _ _ (subscriptTail _ (PySem.Expr.Slice _ none none _) (Value.ref _) (Value.ref _)) _ _ _))); k_dflt (refine' Mine.cut_from (r := 24) (by k_asm) (by k_asm) (by k_mem) (by exact IsPart.int _ _) (by first | decide | omega) (by assumption) (by first | assumption | omega) (by decide) ?_ (by with_unfolding_all rfl) (by kmk_pure)); intro zqD' zqh' zqws' zqzs' zqhzs' zqhzl' zqhzi' zqF' zqN' zql1; (try k_lt zql1); (try k_sweep)) | ((fail_if_success (fail_if_success (with_reducible show wpAny _ _ (subscriptTail _ (PySem.Expr.Slice _ _ none _) (Value.ref _) (Value.ref _)) _ _ _))); k_dflt (refine' Mine.cut_slice (by k_asm) (by k_asm) (by k_mem) (by exact IsPart.int _ _) (by exact IsPart.int _ _) (by first | decide | omega) (by first | decide | omega) (by assumption) (by first | assumption | exact rfl) (by omega) ?_ (by with_unfolding_all rfl) (by kmk_pure)); intro zqD' zqh' zqws' zqzs' zqhzs' zqhzl' zqhzi' zqF' zqN' zql1; (try k_lt zql1); (try k_sweep))) | (goal_has PySem.Value.builtin; first | ((fail_if_success (fail_if_success (with_reducible show wpAny _ _ (call (Value.builtin _) [Value.ref _, Value.int _ _]) _ _ _))); k_dflt (refine' Mine.index_ints (by k_asm) (by k_mem) (by assumption) (by first | assumption | omega) (by assumption) ?_); intro zqi' zqhi0' zqhi1') | ((fail_if_success (fail_if_success (with_reducible show wpAny _ _ (call (Value.builtin "len") [Value.ref _]) _ _ _))); k_dflt (refine' Mine.len_filter (by assumption) (by assumption) (by first | assumption | omega) ?_; k_whole))) | (goal_has call; (fail_if_success (fail_if_success (with_reducible show wpAny _ _ (call (Value.ref _) _ _) _ _ _))); first | (k_dflt (first | (refine' call_cls0 (by k_asm) (by k_asm) (by k_asm) (by k_is) (by k_is) ?_; k_whole; intro zqx zqd zqh zqF zqN zql1 zql2; (try ((have zqU := Mine.lts_up zql1 zql2); (dsimp +zetaDelta only [List.map] at zqU))); (try k_lt zql1); (try k_lt2 zql2); (try k_sweep)) | ((first | (refine' call_cls (by k_asm) (by k_asm) (by k_asm) (by k_is) (by k_is) (by k_is) ?_; k_whole; intro zqx zqd zqh zqF zqN zql1 zql2; (try ((have zqU := Mine.lts_up zql1 zql2); (dsimp +zetaDelta only [List.map] at zqU))); (try k_lt zql1); (try k_lt2 zql2); (try k_sweep)) | (refine' Mine.call_fn (by k_asm) (by k_is) ?_; k_whole) | (refine' call_meth (by k_asm) (by k_mem) ?_; k_whole) | refine wpAny_call ?_); (first | (refine' code_defL (by exact rfl) (by exact rfl) (by first | exact rfl | assumption) (by k_asm) (by k_asm) (by k_asm) (by k_asm) (by k_asm) (by k_is) (by k_is) (by decide) (by ktr_room) (by first | exact BindsTo.of_eq rfl | exact binds_K (by k_in) rfl (by k_is) rfl rfl rfl) (by exact locs rfl) (by exact rfl) (by exact rfl) (by exact rfl) ?_; k_whole; intro zqg zqL zqh zqtk zqFG zqF zqN zqB zqX zqT zqe zqA; (try k_lift zqB); (try ((fail_if_success (fail_if_success k_fold)); (with_reducible refine Mine.wp_fold ?_); intro zqq zqe))) | (refine' code_defCL (by exact rfl) (by exact rfl) (by exact rfl) (by k_asm) (by k_asm) (by k_asm) (by k_asm) (by k_asm) (by k_is) (by k_is) (by ktr_room) (by first | exact BindsTo.of_eq rfl | exact binds_K (by k_in) rfl (by k_is) rfl rfl rfl) (by exact rfl) (by decide +kernel) (by exact rfl) (by exact rfl) (by exact rfl) ?_; k_whole; intro zqg zqL zqh zqtk zqcells zqFG zqF zqN zqY zqB zqX zqT zql1 zqe zqA; (try k_lt zql1); k_cells zqY; (try simp only [List.cons_append, List.nil_append] at zqN); (try dsimp only); (try k_lift zqB); (try ((fail_if_success (fail_if_success k_fold)); (with_reducible refine Mine.wp_fold ?_); intro zqq zqe)))))))) | walk1 | (dsimp only; walk1) | ((with_reducible show wpAny _ _ _ _ _ _); dsimp only) | (leave1; walk_say "STEP leave1"; (first | (with_reducible refine (?_ : wpAny _ _ _ _ _ _)) | try dsimp only))))
  all_goals first
    | (rename News _ _ _ _ => N9
       have hno : (10 : Int) ∉ zs := fun hm => by
         rename (zs.any fun x => x == 10) = false => hA
         rw [List.any_eq_false] at hA
         exact hA _ hm (by decide)
       exact ret _ _ _ ws zs _ _ _ _ (by rw [← htl, tlF_none hno]) hzi hlt hah (by k_asm) N9)
    | (rename Fr _ _ _ _ => F9
       rename News _ _ _ _ => N9
       rename IntsAre _ _ => hzi9
       rename _ = List.drop _ zs => hzs9
       rename _ = List.take _ _ ++ _ => hsp9
       rename List.length _ = List.length zs - _ => hzl9
       rename _ < List.length zs => hi9
       have hD9 := fr_at F9 (x := Str.ofString "ahead") (v := .ref _) rfl
       refine wl_next (_, _, _, 0) F9 N9 (all_cons (fr_at F9 rfl) (all_cons hD9 all_nil)) mem_skip ?_ ⟨hzi9, ?_, ?_, ?_⟩
       · dsimp only
         omega
       · dsimp only
         rw [hzs9, ← htl]
         refine .trans ?_ (congrArg tlF hsp9).symm
         rw [tlF_cut]
         congr 2
       · dsimp only
         omega
       · dsimp only
         exact kst_ltOf (by first | assumption | exact And.right (by assumption)))
  )) only [↓Mine.wrap_i]
end
def pickI (b : Bool) (x y : Int) : Int := if b = true then x else y
/-- a row's dict -/
abbrev rowO (P : Params) (T : Nat → Tok) (st ea gl : Addr) (rc : Int) (isE : Bool) : Obj := dictOf [
  en P "start" (T 0) (.ref st), en P "column" (T 1) (.int 0 (T 10)), en P "end" (T 2) (.ref ea), en P "next_column" (T 3) (.int 0 (T 11)), en P "glyphs" (T 4) (.ref gl),
  en P "is_line_end" (T 5) (.bool false), en P "is_break" (T 6) (.bool false), en P "is_end" (T 7) (.bool isE), en P "mark" (T 8) (.int 32 (T 12)), en P "reach" (T 9) (.int rc (T 13))] 10
/-- the facts' dict -/
abbrev factO (P : Params) (T : Nat → Tok) (nm : Str) (bv zv top bot line col : Int) (md ro nr : Bool) : Obj := dictOf [
  en P "name" (T 0) (.str nm (T 13)), en P "file" (T 1) (.str (Str.ofString "") (T 14)), en P "mode" (T 2) (.str (Str.ofString "Fundamental") (T 15)), en P "begin" (T 3) (.int bv (T 16)), en P "end" (T 4) (.int zv (T 17)),
  en P "top" (T 5) (.int top (T 18)), en P "bottom" (T 6) (.int bot (T 19)), en P "line" (T 7) (.int line (T 20)), en P "column" (T 8) (.int col (T 21)),
  en P "is_modified" (T 9) (.bool md), en P "is_read_only" (T 10) (.bool ro), en P "is_narrowed" (T 11) (.bool nr), en P "deep" (T 12) (.int 0 (T 22))] 13
section
variable {prog : Program} {w : World} {p : Program} {loose : List Str} {mean : ExcName → Option Value} {mg mb : Str → Option Value} {dp un : Nat} {gd : Option (List Code)} {cn : Str} {cnm : List (Str × NameKind)} {cg cc : Bool} {cm : List (Str × Const)} {a : Addr} {ccd : Value} {cl : List (Str × Addr)} {outer : List Env} {A₀ : Around} {base h₀ : Heap} {L : Addr} {m : Str → Option Value} {s : Shared} {Q E : Value → Shared → Prop}

theorem fof_ok {b bd g gp ce mk li r0 r1 rd rl st ea gl o od : Addr} {wz : List Value} {zz pad z0 : List Int} {nce nr n5 : Nat} {T1 T2 T3 T4 : Nat → Tok} {nm : Str} {pt bv zv tk1 ck sv gs ge start point rc wd e5 : Int} {ro isE : Bool} {ts tp te te2 : Tok} {own : List (Addr × Obj)}
    (B : Below A₀ base outer h₀) (F : Fr h₀ L s.heap m) (X : (Mine.fr.heap_1_1 w.params).In h₀) (N : News h₀ L s.heap own) (TT : Top p loose mean mg mb h₀)
    (mb' : (b, instObj 435 bd) ∈ own) (mbd : (bd, bufO w.params T1 nm g mk li pt bv zv tk1 ck sv ro) ∈ own) (mg' : (g, instObj 224 gp) ∈ own) (mgp : (gp, gapO w.params T2 ce gs ge) ∈ own) (mce : (ce, listOf wz.toArray nce) ∈ own)
    (mrl : (rl, listOf #[Value.ref r0, Value.ref r1] nr) ∈ own) (mr1 : (r1, instObj 884 rd) ∈ own) (mrd : (rd, rowO w.params T3 st ea gl rc isE) ∈ own) (mea : (ea, ({ cls := .type "tuple", data := .seq #[.int e5 te, .int 0 te2] n5 } : Obj)) ∈ own)
    (mo : (o, instObj 39 od) ∈ own) (mod : (od, optO w.params T4 wd) ∈ own)
    (hz : IntsAre wz zz) (ez : zz = z0 ++ pad) (egs : gs = (z0.length : Int)) (ege : ge = (zz.length : Int)) (hzz : zz.length ≤ 100) (hl0 : z0.length ≤ 20) (hcode : ∀ x ∈ z0, codeOk x) (hb1 : 1 ≤ bv) (hb2 : bv ≤ zv) (hb3 : zv ≤ (z0.length : Int) + 1)
    (hp1 : bv ≤ point) (hp2 : point ≤ zv) (hw1 : 2 ≤ wd) (hw2 : wd ≤ 8)
    (hd : dp + 30 < recursionLimit) (hu : un + 600 < cLine)
    (ret : ∀ f fd T5 bt nr h' tk', bt = pickI isE zv e5 → (nr = true ↔ (1 < bv ∨ zv < (z0.length : Int) + 1)) → (∀ q ∈ own, q.1 < fd) → @LT.lt Nat _ fd f → Fr h₀ L h' m →
      News h₀ L h' ((f, instObj 102 fd) :: (fd, factO w.params T5 nm bv zv start bt (nlF (cut z0 (bv - 1) (point - 1))) ((tlF (cut z0 (bv - 1) (point - 1))).foldl (colF wd) 0) (decide (sv < tk1)) ro nr) :: own) → Q (.ref f) { s with heap := h', toks := tk' }) :
    wpAny (model prog w) (ktrTop dp un gd cn ⟨.function, cnm, cg, cc, cm⟩ L a ccd cl outer) (call (.ref (120 : Nat)) [.ref b, .int start ts, .ref rl, .int point tp, .ref o]) Q E s := by
  refine Mine.unwrap ?_
  simp (disch := k_dflt (
  have _h : PySem.Challenge.rw_on0075_01 = PySem.Challenge.rw_on0075_01 ∧ Mine.fr.heap_1_1 = Mine.fr.heap_1_1 := by (k_fill; exact ⟨rfl, rfl⟩)
  clear _h
  w_top off
  have hzl : z0.length ≤ zz.length := by rw [ez, List.length_append]; omega
  repeat' ((fail_if_success (with_reducible show wpAny _ _ (pyIter (Value.ref _)) (fun it s₂ => LoopAtV _ _ _ _ _ _ _ _ _ it s₂) _ _)); ((first | ((fail_if_success (fail_if_success k_unfold)); (first | (with_reducible refine (?_ : wpAny _ _ _ _ _ _)) | (k_unfold; (try dsimp only)))) | ((fail_if_success (fail_if_success k_fold)); (first | (goal_has PySem.exec; (fail_if_success (fail_if_success (with_reducible show wpAny _ _ (exec _ _) _ _ _)))) | (goal_has PySem.Expr.BoolOp; (fail_if_success (fail_if_success (with_reducible show wpAny _ _ (eval (PySem.Expr.BoolOp _ _ _) _) _ _ _)))) | (goal_has PySem.Expr.Call; (fail_if_success (fail_if_success (with_reducible show wpAny _ _ (eval (PySem.Expr.Call _ _ _ _) _) _ _ _)))) | (goal_has PySem.Expr.Compare; (fail_if_success (fail_if_success (with_reducible show wpAny _ _ (eval (PySem.Expr.Compare _ _ _ _) _) _ _ _))))); (with_reducible refine Mine.wp_fold ?_); intro zqq zqe) | (goal_has PySem.Shared.mk; (with_reducible refine Mine.st_let ?_); intro zqs; goal_lacks PySem.Shared.mk) | ((ctx_mentions ite List.lookup); (rename Fr _ _ _ _ => zqF9); revert zqF9; (goal_has ite List.lookup); (with_reducible refine Mine.fr_let ?_); intro zqm; goal_lacks ite List.lookup; intro zqF) | ((ctx_mentions List.cons HAppend.hAppend List.append); (rename News _ _ _ _ => zqN9); (fail_if_success (fail_if_success (conv at zqN9 => arg 4; arg 2))); (with_reducible refine Mine.news_let zqN9 ?_); intro zql zqN; clear zqN9) | (k_end; wrow_close) | (goal_has subscriptTail; first | ((fail_if_success (fail_if_success (with_reducible show wpAny _ _ (subscriptTail _ _ (Value.ref _) (Value.int _ _)) _ _ _))); k_dflt (refine' item_tupleT (by exact News.isTup (by k_asm) (by k_mem)) (by decide) (by decide) (by rfl) (by rfl) ?_; k_whole)) | ((fail_if_success (fail_if_success (with_reducible show wpAny _ _ (subscriptTail _ _ (Value.ref _) (Value.int (-1) _)) _ _ _))); k_dflt (refine' Mine.last_two (by k_asm) (by k_mem) ?_)) | ((fail_if_success (fail_if_success (with_reducible show wpAny _ _ (subscriptTail _ _ (Value.ref _) (Value.int (-1) _)) _ _ _))); k_dflt (refine' Mine.last_item (by k_asm) (by k_mem) ?_))) | (goal_has PySem.Value.builtin; first | ((fail_if_success (fail_if_success (with_reducible show wpAny _ _ (call (Value.builtin _) [Value.ref _, _]) _ _ _))); k_dflt (refine' append_K (by k_asm) (by k_asm) (by k_upd) ?_ (by ((rw [List.size_toArray, PySem.sizeLine_eq]); omega)); k_whole); intro zqh' zqF' zqN'; (try k_sweep)) | ((fail_if_success (fail_if_success (with_reducible show wpAny _ _ (call (Value.builtin "len") [Value.ref _]) _ _ _))); k_dflt (refine' kst_len (by k_asm) (by k_mem) (by exact IntsAre.length (by assumption)) (by omega) ?_; k_whole))) | (goal_has call; (fail_if_success (fail_if_success (with_reducible show wpAny _ _ (call (Value.ref _) _ _) _ _ _))); first | ((fail_if_success (fail_if_success (with_reducible show wpAny _ _ (call (Value.ref (85 : Nat)) [Value.ref _, Value.ref _]) _ _ _))); k_dflt (refine' Mine.columns_ok (by k_asm) (by k_asm) (by k_asm) (by k_asm) (by k_asm) (by k_mem) (by k_mem) (by k_mem) (by assumption) (by assumption) (by first | assumption | omega) (by first | assumption | omega) (by ktr_room) (by ktr_units) ?_); intro zqt' zqh' zqtk' zqF' zqN'; (try k_sweep); (try dsimp only); (try ((fail_if_success (fail_if_success k_fold)); (with_reducible refine Mine.wp_fold ?_); intro zqq zqe))) | (k_dflt (first | (refine' call_cls0 (by k_asm) (by k_asm) (by k_asm) (by k_is) (by k_is) ?_; k_whole; intro zqx zqd zqh zqF zqN zql1 zql2; (try ((have zqU := Mine.lts_up zql1 zql2); (dsimp +zetaDelta only [List.map] at zqU))); (try k_lt zql1); (try k_lt2 zql2); (try k_sweep)) | ((first | (refine' call_cls (by k_asm) (by k_asm) (by k_asm) (by k_is) (by k_is) (by k_is) ?_; k_whole; intro zqx zqd zqh zqF zqN zql1 zql2; (try ((have zqU := Mine.lts_up zql1 zql2); (dsimp +zetaDelta only [List.map] at zqU))); (try k_lt zql1); (try k_lt2 zql2); (try k_sweep)) | (refine' Mine.call_fn (by k_asm) (by k_is) ?_; k_whole) | (refine' call_meth (by k_asm) (by k_mem) ?_; k_whole) | refine wpAny_call ?_); (first | (refine' code_defL (by exact rfl) (by exact rfl) (by first | exact rfl | assumption) (by k_asm) (by k_asm) (by k_asm) (by k_asm) (by k_asm) (by k_is) (by k_is) (by decide) (by ktr_room) (by first | exact BindsTo.of_eq rfl | exact binds_K (by k_in) rfl (by k_is) rfl rfl rfl) (by exact locs rfl) (by exact rfl) (by exact rfl) (by exact rfl) ?_; k_whole; intro zqg zqL zqh zqtk zqFG zqF zqN zqB zqX zqT zqe zqA; (try k_lift zqB); (try ((fail_if_success (fail_if_success k_fold)); (with_reducible refine Mine.wp_fold ?_); intro zqq zqe))) | (refine' code_defCL (by exact rfl) (by exact rfl) (by exact rfl) (by k_asm) (by k_asm) (by k_asm) (by k_asm) (by k_asm) (by k_is) (by k_is) (by ktr_room) (by first | exact BindsTo.of_eq rfl | exact binds_K (by k_in) rfl (by k_is) rfl rfl rfl) (by exact rfl) (by decide +kernel) (by exact rfl) (by exact rfl) (by exact rfl) ?_; k_whole; intro zqg zqL zqh zqtk zqcells zqFG zqF zqN zqY zqB zqX zqT zql1 zqe zqA; (try k_lt zql1); k_cells zqY; (try simp only [List.cons_append, List.nil_append] at zqN); (try dsimp only); (try k_lift zqB); (try ((fail_if_success (fail_if_success k_fold)); (with_reducible refine Mine.wp_fold ?_); intro zqq zqe)))))))) | walk1 | (dsimp only; walk1) | ((with_reducible show wpAny _ _ _ _ _ _); dsimp only) | (leave1; walk_say "STEP leave1"; (first | (with_reducible refine (?_ : wpAny _ _ _ _ _ _)) | try dsimp only)))))
  rename Fr _ _ _ _ => F'
  rename News _ _ _ _ => N'
  rename IsRange _ _ _ _ _ _ _ _ => hr
  have hl1 : ∀ q ∈ own, q.1 < _ := kst_ltOf (And.right (by assumption))
  obtain ⟨t0, ht0⟩ := fr_int (x := Str.ofString "line") (k := 1) F' rfl
  have hD := fr_at F' (x := Str.ofString "codes") (v := .ref _) rfl
  refine' range_led (n := (point - bv).toNat) (σ := Addr × List Value × List Int × Nat × Int × Tok) (fun c => (c.1, listOf c.2.1.toArray c.2.2.2.1) :: own)
    (fun c => [(Str.ofString "codes", .ref c.1), (Str.ofString "line", .int c.2.2.2.2.1 c.2.2.2.2.2), (Str.ofString "buffer", .ref b), (Str.ofString "start", .int start ts), (Str.ofString "rows", .ref rl), (Str.ofString "options", .ref o)])
    (fun i c => IntsAre c.2.1 c.2.2.1 ∧ c.2.2.1 = tlF (cut z0 (bv - 1) (bv - 1 + (i : Int))) ∧ c.2.2.2.2.1 = nlF (cut z0 (bv - 1) (bv - 1 + (i : Int))) ∧ ∀ q ∈ own, q.1 < c.1) (_, [], [], 0, 1, t0)
    rfl hr ?s1 ?s2 F' (cb_drop N' ?s3) (all_cons hD (all_cons ht0 (all_cons (fr_at F' rfl) (all_cons (fr_at F' rfl) (all_cons (fr_at F' rfl) (all_cons (fr_at F' rfl) all_nil)))))) ⟨.nil, ?j1, ?j2, ?j3⟩ ?turn ?done
  case s1 => exact small_one (by omega) (by omega) (by omega) (by omega)
  case s2 => exact rangeSize_nat _ _
  case s3 => exact fun q hq => .tail _ hq
  case j1 => (dsimp only; rw [cut_zero]; rfl)
  case j2 => (dsimp only; rw [cut_zero]; rfl)
  case j3 => first | assumption | exact kst_ltOf (by assumption)
  case turn =>
    clear hr ht0 hD F' N'
    intro i c u t I oI h tk hin hj F' N' off
    obtain ⟨ca, ws, zs, n9, ln, tl⟩ := c
    obtain ⟨hzi, hzs, hln, hlt⟩ := hj
    dsimp only at hzi hzs hln hlt F' N' off ⊢
    have hIc : @Ne Nat ca I := off _ (.head _)
    have hws : ws.length ≤ 20 := by
      have h1 := tlF_len (cut z0 (bv - 1) (bv - 1 + (i : Int)))
      rw [← hzs, cut_length] at h1
      rw [hzi.length]; omega
    have hst := cut_step ez (bv := bv) (i := i) hb1 (by omega)
    repeat' ((first | ((fail_if_success (fail_if_success k_unfold)); (first | (with_reducible refine (?_ : wpAny _ _ _ _ _ _)) | (k_unfold; (try dsimp only)))) | ((fail_if_success (fail_if_success k_fold)); (first | (goal_has PySem.exec; (fail_if_success (fail_if_success (with_reducible show wpAny _ _ (exec _ _) _ _ _)))) | (goal_has PySem.Expr.BoolOp; (fail_if_success (fail_if_success (with_reducible show wpAny _ _ (eval (PySem.Expr.BoolOp _ _ _) _) _ _ _)))) | (goal_has PySem.Expr.Call; (fail_if_success (fail_if_success (with_reducible show wpAny _ _ (eval (PySem.Expr.Call _ _ _ _) _) _ _ _)))) | (goal_has PySem.Expr.Compare; (fail_if_success (fail_if_success (with_reducible show wpAny _ _ (eval (PySem.Expr.Compare _ _ _ _) _) _ _ _))))); (with_reducible refine Mine.wp_fold ?_); intro zqq zqe) | (goal_has PySem.Shared.mk; (with_reducible refine Mine.st_let ?_); intro zqs; goal_lacks PySem.Shared.mk) | ((ctx_mentions ite List.lookup); (rename Fr _ _ _ _ => zqF9); revert zqF9; (goal_has ite List.lookup); (with_reducible refine Mine.fr_let ?_); intro zqm; goal_lacks ite List.lookup; intro zqF) | ((ctx_mentions List.cons HAppend.hAppend List.append); (rename News _ _ _ _ => zqN9); (fail_if_success (fail_if_success (conv at zqN9 => arg 4; arg 2))); (with_reducible refine Mine.news_let zqN9 ?_); intro zql zqN; clear zqN9) | (k_end; wrow_close) | (goal_has subscriptTail; first | ((fail_if_success (fail_if_success (with_reducible show wpAny _ _ (subscriptTail _ _ (Value.ref _) (Value.int _ _)) _ _ _))); k_dflt (refine' item_tupleT (by exact News.isTup (by k_asm) (by k_mem)) (by decide) (by decide) (by rfl) (by rfl) ?_; k_whole)) | ((fail_if_success (fail_if_success (with_reducible show wpAny _ _ (subscriptTail _ _ (Value.ref _) (Value.int (-1) _)) _ _ _))); k_dflt (refine' Mine.last_two (by k_asm) (by k_mem) ?_)) | ((fail_if_success (fail_if_success (with_reducible show wpAny _ _ (subscriptTail _ _ (Value.ref _) (Value.int (-1) _)) _ _ _))); k_dflt (refine' Mine.last_item (by k_asm) (by k_mem) ?_))) | (goal_has PySem.Value.builtin; first | ((fail_if_success (fail_if_success (with_reducible show wpAny _ _ (call (Value.builtin _) [Value.ref _, _]) _ _ _))); k_dflt (refine' append_K (by k_asm) (by k_asm) (by k_upd) ?_ (by ((rw [List.size_toArray, PySem.sizeLine_eq]); omega)); k_whole); intro zqh' zqF' zqN'; (try k_sweep)) | ((fail_if_success (fail_if_success (with_reducible show wpAny _ _ (call (Value.builtin "len") [Value.ref _]) _ _ _))); k_dflt (refine' kst_len (by k_asm) (by k_mem) (by exact IntsAre.length (by assumption)) (by omega) ?_; k_whole))) | (goal_has call; (fail_if_success (fail_if_success (with_reducible show wpAny _ _ (call (Value.ref _) _ _) _ _ _))); first | ((fail_if_success (fail_if_success (with_reducible show wpAny _ _ (call (Value.ref (85 : Nat)) [Value.ref _, Value.ref _]) _ _ _))); k_dflt (refine' Mine.columns_ok (by k_asm) (by k_asm) (by k_asm) (by k_asm) (by k_asm) (by k_mem) (by k_mem) (by k_mem) (by assumption) (by assumption) (by first | assumption | omega) (by first | assumption | omega) (by ktr_room) (by ktr_units) ?_); intro zqt' zqh' zqtk' zqF' zqN'; (try k_sweep); (try dsimp only); (try ((fail_if_success (fail_if_success k_fold)); (with_reducible refine Mine.wp_fold ?_); intro zqq zqe))) | (k_dflt (first | (refine' call_cls0 (by k_asm) (by k_asm) (by k_asm) (by k_is) (by k_is) ?_; k_whole; intro zqx zqd zqh zqF zqN zql1 zql2; (try ((have zqU := Mine.lts_up zql1 zql2); (dsimp +zetaDelta only [List.map] at zqU))); (try k_lt zql1); (try k_lt2 zql2); (try k_sweep)) | ((first | (refine' call_cls (by k_asm) (by k_asm) (by k_asm) (by k_is) (by k_is) (by k_is) ?_; k_whole; intro zqx zqd zqh zqF zqN zql1 zql2; (try ((have zqU := Mine.lts_up zql1 zql2); (dsimp +zetaDelta only [List.map] at zqU))); (try k_lt zql1); (try k_lt2 zql2); (try k_sweep)) | (refine' Mine.call_fn (by k_asm) (by k_is) ?_; k_whole) | (refine' call_meth (by k_asm) (by k_mem) ?_; k_whole) | refine wpAny_call ?_); (first | (refine' code_defL (by exact rfl) (by exact rfl) (by first | exact rfl | assumption) (by k_asm) (by k_asm) (by k_asm) (by k_asm) (by k_asm) (by k_is) (by k_is) (by decide) (by ktr_room) (by first | exact BindsTo.of_eq rfl | exact binds_K (by k_in) rfl (by k_is) rfl rfl rfl) (by exact locs rfl) (by exact rfl) (by exact rfl) (by exact rfl) ?_; k_whole; intro zqg zqL zqh zqtk zqFG zqF zqN zqB zqX zqT zqe zqA; (try k_lift zqB); (try ((fail_if_success (fail_if_success k_fold)); (with_reducible refine Mine.wp_fold ?_); intro zqq zqe))) | (refine' code_defCL (by exact rfl) (by exact rfl) (by exact rfl) (by k_asm) (by k_asm) (by k_asm) (by k_asm) (by k_asm) (by k_is) (by k_is) (by ktr_room) (by first | exact BindsTo.of_eq rfl | exact binds_K (by k_in) rfl (by k_is) rfl rfl rfl) (by exact rfl) (by decide +kernel) (by exact rfl) (by exact rfl) (by exact rfl) ?_; k_whole; intro zqg zqL zqh zqtk zqcells zqFG zqF zqN zqY zqB zqX zqT zql1 zqe zqA; (try k_lt zql1); k_cells zqY; (try simp only [List.cons_append, List.nil_append] at zqN); (try dsimp only); (try k_lift zqB); (try ((fail_if_success (fail_if_success k_fold)); (with_reducible refine Mine.wp_fold ?_); intro zqq zqe)))))))) | walk1 | (dsimp only; walk1) | ((with_reducible show wpAny _ _ _ _ _ _); dsimp only) | (leave1; walk_say "STEP leave1"; (first | (with_reducible refine (?_ : wpAny _ _ _ _ _ _)) | try dsimp only))))
    · rename Fr _ _ _ _ => F9
      rename News _ _ _ _ => N9
      rename List.getD _ _ _ = 10 => hx
      have hD9 := fr_at F9 (x := Str.ofString "codes") (v := .ref _) rfl
      obtain ⟨t9, ht9⟩ := fr_int (x := Str.ofString "line") F9 rfl
      refine led_next (_, [], [], 0, _, t9) F9 N9 (all_cons hD9 (all_cons ht9 (all_cons rfl (all_cons rfl (all_cons rfl (all_cons rfl all_nil))))))
        (List.forall_mem_cons.mpr ⟨.tail _ (.tail _ (.head _)), List.forall_mem_cons.mpr ⟨.tail _ (.head _), fun q hq => .tail _ (.tail _ (.tail _ (.tail _ hq)))⟩⟩) (List.forall_mem_cons.mpr ⟨?_, fun q hq => off q (.tail _ hq)⟩) ⟨.nil, ?_, ?_, ?_⟩
      · k_ne
      · dsimp only
        rw [hst, tlF_snoc, if_pos hx]
      · dsimp only
        rw [hst, nlF_snoc, if_pos hx, ← hln]
      · dsimp only
        exact kst_ltOf (And.right (And.right (by assumption)))
    · rename Fr _ _ _ _ => F9
      rename News _ _ _ _ => N9
      rename List.getD _ _ _ ≠ 10 => hx
      simp +zetaDelta only [List.push_toArray] at N9
      refine led_next (ca, _, _, _, ln, tl) F9 N9 (all_cons rfl (all_cons rfl (all_cons rfl (all_cons rfl (all_cons rfl (all_cons rfl all_nil)))))) (fun _ h => h) (List.forall_mem_cons.mpr ⟨hIc, fun q hq => off q (.tail _ hq)⟩) ⟨ints_app hzi (.cons _ _ .nil), ?_, ?_, hlt⟩
      · dsimp only
        rw [hst, tlF_snoc, if_neg hx, ← hzs]
      · dsimp only
        rw [hst, nlF_snoc, if_neg hx, ← hln]
  case done =>
    clear hr ht0 hD F' N'
    intro c u h tk hj F' N'
    obtain ⟨ca, ws, zs, n9, ln, tl⟩ := c
    obtain ⟨hzi, hzs, hln, hlt⟩ := hj
    dsimp only at hzi hzs hln hlt F' N' ⊢
    dsimp +zetaDelta only [envOf] at F' N'
    rw [show bv - 1 + (((point - bv).toNat : Nat) : Int) = point - 1 by omega] at hzs hln
    have hcs : ∀ code ∈ zs, code = 97 ∨ code = 98 ∨ code = 9 ∨ code = 1 := fun code hm => by
      rw [hzs] at hm
      have h1 := tlF_mem hm
      rcases hcode code (List.mem_of_mem_drop (List.mem_of_mem_take h1.1)) with h | h | h | h | h <;> omega
    repeat' ((fail_if_success (with_reducible show wpAny _ _ (exec (PySem.Stmt.Assign _ (PySem.Expr.IfExp _ _ _ _) _) _) _ _ _)); ((first | ((fail_if_success (fail_if_success k_unfold)); (first | (with_reducible refine (?_ : wpAny _ _ _ _ _ _)) | (k_unfold; (try dsimp only)))) | ((fail_if_success (fail_if_success k_fold)); (first | (goal_has PySem.exec; (fail_if_success (fail_if_success (with_reducible show wpAny _ _ (exec _ _) _ _ _)))) | (goal_has PySem.Expr.BoolOp; (fail_if_success (fail_if_success (with_reducible show wpAny _ _ (eval (PySem.Expr.BoolOp _ _ _) _) _ _ _)))) | (goal_has PySem.Expr.Call; (fail_if_success (fail_if_success (with_reducible show wpAny _ _ (eval (PySem.Expr.Call _ _ _ _) _) _ _ _)))) | (goal_has PySem.Expr.Compare; (fail_if_success (fail_if_success (with_reducible show wpAny _ _ (eval (PySem.Expr.Compare _ _ _ _) _) _ _ _))))); (with_reducible refine Mine.wp_fold ?_); intro zqq zqe) | (goal_has PySem.Shared.mk; (with_reducible refine Mine.st_let ?_); intro zqs; goal_lacks PySem.Shared.mk) | ((ctx_mentions ite List.lookup); (rename Fr _ _ _ _ => zqF9); revert zqF9; (goal_has ite List.lookup); (with_reducible refine Mine.fr_let ?_); intro zqm; goal_lacks ite List.lookup; intro zqF) | ((ctx_mentions List.cons HAppend.hAppend List.append); (rename News _ _ _ _ => zqN9); (fail_if_success (fail_if_success (conv at zqN9 => arg 4; arg 2))); (with_reducible refine Mine.news_let zqN9 ?_); intro zql zqN; clear zqN9) | (k_end; wrow_close) | (goal_has subscriptTail; first | ((fail_if_success (fail_if_success (with_reducible show wpAny _ _ (subscriptTail _ _ (Value.ref _) (Value.int _ _)) _ _ _))); k_dflt (refine' item_tupleT (by exact News.isTup (by k_asm) (by k_mem)) (by decide) (by decide) (by rfl) (by rfl) ?_; k_whole)) | ((fail_if_success (fail_if_success (with_reducible show wpAny _ _ (subscriptTail _ _ (Value.ref _) (Value.int (-1) _)) _ _ _))); k_dflt (refine' Mine.last_two (by k_asm) (by k_mem) ?_)) | ((fail_if_success (fail_if_success (with_reducible show wpAny _ _ (subscriptTail _ _ (Value.ref _) (Value.int (-1) _)) _ _ _))); k_dflt (refine' Mine.last_item (by k_asm) (by k_mem) ?_))) | (goal_has PySem.Value.builtin; first | ((fail_if_success (fail_if_success (with_reducible show wpAny _ _ (call (Value.builtin _) [Value.ref _, _]) _ _ _))); k_dflt (refine' append_K (by k_asm) (by k_asm) (by k_upd) ?_ (by ((rw [List.size_toArray, PySem.sizeLine_eq]); omega)); k_whole); intro zqh' zqF' zqN'; (try k_sweep)) | ((fail_if_success (fail_if_success (with_reducible show wpAny _ _ (call (Value.builtin "len") [Value.ref _]) _ _ _))); k_dflt (refine' kst_len (by k_asm) (by k_mem) (by exact IntsAre.length (by assumption)) (by omega) ?_; k_whole))) | (goal_has call; (fail_if_success (fail_if_success (with_reducible show wpAny _ _ (call (Value.ref _) _ _) _ _ _))); first | ((fail_if_success (fail_if_success (with_reducible show wpAny _ _ (call (Value.ref (85 : Nat)) [Value.ref _, Value.ref _]) _ _ _))); k_dflt (refine' Mine.columns_ok (by k_asm) (by k_asm) (by k_asm) (by k_asm) (by k_asm) (by k_mem) (by k_mem) (by k_mem) (by assumption) (by assumption) (by first | assumption | omega) (by first | assumption | omega) (by ktr_room) (by ktr_units) ?_); intro zqt' zqh' zqtk' zqF' zqN'; (try k_sweep); (try dsimp only); (try ((fail_if_success (fail_if_success k_fold)); (with_reducible refine Mine.wp_fold ?_); intro zqq zqe))) | (k_dflt (first | (refine' call_cls0 (by k_asm) (by k_asm) (by k_asm) (by k_is) (by k_is) ?_; k_whole; intro zqx zqd zqh zqF zqN zql1 zql2; (try ((have zqU := Mine.lts_up zql1 zql2); (dsimp +zetaDelta only [List.map] at zqU))); (try k_lt zql1); (try k_lt2 zql2); (try k_sweep)) | ((first | (refine' call_cls (by k_asm) (by k_asm) (by k_asm) (by k_is) (by k_is) (by k_is) ?_; k_whole; intro zqx zqd zqh zqF zqN zql1 zql2; (try ((have zqU := Mine.lts_up zql1 zql2); (dsimp +zetaDelta only [List.map] at zqU))); (try k_lt zql1); (try k_lt2 zql2); (try k_sweep)) | (refine' Mine.call_fn (by k_asm) (by k_is) ?_; k_whole) | (refine' call_meth (by k_asm) (by k_mem) ?_; k_whole) | refine wpAny_call ?_); (first | (refine' code_defL (by exact rfl) (by exact rfl) (by first | exact rfl | assumption) (by k_asm) (by k_asm) (by k_asm) (by k_asm) (by k_asm) (by k_is) (by k_is) (by decide) (by ktr_room) (by first | exact BindsTo.of_eq rfl | exact binds_K (by k_in) rfl (by k_is) rfl rfl rfl) (by exact locs rfl) (by exact rfl) (by exact rfl) (by exact rfl) ?_; k_whole; intro zqg zqL zqh zqtk zqFG zqF zqN zqB zqX zqT zqe zqA; (try k_lift zqB); (try ((fail_if_success (fail_if_success k_fold)); (with_reducible refine Mine.wp_fold ?_); intro zqq zqe))) | (refine' code_defCL (by exact rfl) (by exact rfl) (by exact rfl) (by k_asm) (by k_asm) (by k_asm) (by k_asm) (by k_asm) (by k_is) (by k_is) (by ktr_room) (by first | exact BindsTo.of_eq rfl | exact binds_K (by k_in) rfl (by k_is) rfl rfl rfl) (by exact rfl) (by decide +kernel) (by exact rfl) (by exact rfl) (by exact rfl) ?_; k_whole; intro zqg zqL zqh zqtk zqcells zqFG zqF zqN zqY zqB zqX zqT zql1 zqe zqA; (try k_lt zql1); k_cells zqY; (try simp only [List.cons_append, List.nil_append] at zqN); (try dsimp only); (try k_lift zqB); (try ((fail_if_success (fail_if_success k_fold)); (with_reducible refine Mine.wp_fold ?_); intro zqq zqe)))))))) | walk1 | (dsimp only; walk1) | ((with_reducible show wpAny _ _ _ _ _ _); dsimp only) | (leave1; walk_say "STEP leave1"; (first | (with_reducible refine (?_ : wpAny _ _ _ _ _ _)) | try dsimp only)))))
    rename Fr _ _ _ _ => F9
    rename News _ _ _ _ => N9
    refine' exec_join (VarAt F9 N9 s (Str.ofString "bottom") (pickI isE zv e5)) ?w1 ?w2
    case w1 =>
      cases isE <;> repeat' ((first | ((fail_if_success (fail_if_success k_unfold)); (first | (with_reducible refine (?_ : wpAny _ _ _ _ _ _)) | (k_unfold; (try dsimp only)))) | ((fail_if_success (fail_if_success k_fold)); (first | (goal_has PySem.exec; (fail_if_success (fail_if_success (with_reducible show wpAny _ _ (exec _ _) _ _ _)))) | (goal_has PySem.Expr.BoolOp; (fail_if_success (fail_if_success (with_reducible show wpAny _ _ (eval (PySem.Expr.BoolOp _ _ _) _) _ _ _)))) | (goal_has PySem.Expr.Call; (fail_if_success (fail_if_success (with_reducible show wpAny _ _ (eval (PySem.Expr.Call _ _ _ _) _) _ _ _)))) | (goal_has PySem.Expr.Compare; (fail_if_success (fail_if_success (with_reducible show wpAny _ _ (eval (PySem.Expr.Compare _ _ _ _) _) _ _ _))))); (with_reducible refine Mine.wp_fold ?_); intro zqq zqe) | (goal_has PySem.Shared.mk; (with_reducible refine Mine.st_let ?_); intro zqs; goal_lacks PySem.Shared.mk) | ((ctx_mentions ite List.lookup); (rename Fr _ _ _ _ => zqF9); revert zqF9; (goal_has ite List.lookup); (with_reducible refine Mine.fr_let ?_); intro zqm; goal_lacks ite List.lookup; intro zqF) | ((ctx_mentions List.cons HAppend.hAppend List.append); (rename News _ _ _ _ => zqN9); (fail_if_success (fail_if_success (conv at zqN9 => arg 4; arg 2))); (with_reducible refine Mine.news_let zqN9 ?_); intro zql zqN; clear zqN9) | (k_end; wrow_close) | (goal_has subscriptTail; first | ((fail_if_success (fail_if_success (with_reducible show wpAny _ _ (subscriptTail _ _ (Value.ref _) (Value.int _ _)) _ _ _))); k_dflt (refine' item_tupleT (by exact News.isTup (by k_asm) (by k_mem)) (by decide) (by decide) (by rfl) (by rfl) ?_; k_whole)) | ((fail_if_success (fail_if_success (with_reducible show wpAny _ _ (subscriptTail _ _ (Value.ref _) (Value.int (-1) _)) _ _ _))); k_dflt (refine' Mine.last_two (by k_asm) (by k_mem) ?_)) | ((fail_if_success (fail_if_success (with_reducible show wpAny _ _ (subscriptTail _ _ (Value.ref _) (Value.int (-1) _)) _ _ _))); k_dflt (refine' Mine.last_item (by k_asm) (by k_mem) ?_))) | (goal_has PySem.Value.builtin; first | ((fail_if_success (fail_if_success (with_reducible show wpAny _ _ (call (Value.builtin _) [Value.ref _, _]) _ _ _))); k_dflt (refine' append_K (by k_asm) (by k_asm) (by k_upd) ?_ (by ((rw [List.size_toArray, PySem.sizeLine_eq]); omega)); k_whole); intro zqh' zqF' zqN'; (try k_sweep)) | ((fail_if_success (fail_if_success (with_reducible show wpAny _ _ (call (Value.builtin "len") [Value.ref _]) _ _ _))); k_dflt (refine' kst_len (by k_asm) (by k_mem) (by exact IntsAre.length (by assumption)) (by omega) ?_; k_whole))) | (goal_has call; (fail_if_success (fail_if_success (with_reducible show wpAny _ _ (call (Value.ref _) _ _) _ _ _))); first | ((fail_if_success (fail_if_success (with_reducible show wpAny _ _ (call (Value.ref (85 : Nat)) [Value.ref _, Value.ref _]) _ _ _))); k_dflt (refine' Mine.columns_ok (by k_asm) (by k_asm) (by k_asm) (by k_asm) (by k_asm) (by k_mem) (by k_mem) (by k_mem) (by assumption) (by assumption) (by first | assumption | omega) (by first | assumption | omega) (by ktr_room) (by ktr_units) ?_); intro zqt' zqh' zqtk' zqF' zqN'; (try k_sweep); (try dsimp only); (try ((fail_if_success (fail_if_success k_fold)); (with_reducible refine Mine.wp_fold ?_); intro zqq zqe))) | (k_dflt (first | (refine' call_cls0 (by k_asm) (by k_asm) (by k_asm) (by k_is) (by k_is) ?_; k_whole; intro zqx zqd zqh zqF zqN zql1 zql2; (try ((have zqU := Mine.lts_up zql1 zql2); (dsimp +zetaDelta only [List.map] at zqU))); (try k_lt zql1); (try k_lt2 zql2); (try k_sweep)) | ((first | (refine' call_cls (by k_asm) (by k_asm) (by k_asm) (by k_is) (by k_is) (by k_is) ?_; k_whole; intro zqx zqd zqh zqF zqN zql1 zql2; (try ((have zqU := Mine.lts_up zql1 zql2); (dsimp +zetaDelta only [List.map] at zqU))); (try k_lt zql1); (try k_lt2 zql2); (try k_sweep)) | (refine' Mine.call_fn (by k_asm) (by k_is) ?_; k_whole) | (refine' call_meth (by k_asm) (by k_mem) ?_; k_whole) | refine wpAny_call ?_); (first | (refine' code_defL (by exact rfl) (by exact rfl) (by first | exact rfl | assumption) (by k_asm) (by k_asm) (by k_asm) (by k_asm) (by k_asm) (by k_is) (by k_is) (by decide) (by ktr_room) (by first | exact BindsTo.of_eq rfl | exact binds_K (by k_in) rfl (by k_is) rfl rfl rfl) (by exact locs rfl) (by exact rfl) (by exact rfl) (by exact rfl) ?_; k_whole; intro zqg zqL zqh zqtk zqFG zqF zqN zqB zqX zqT zqe zqA; (try k_lift zqB); (try ((fail_if_success (fail_if_success k_fold)); (with_reducible refine Mine.wp_fold ?_); intro zqq zqe))) | (refine' code_defCL (by exact rfl) (by exact rfl) (by exact rfl) (by k_asm) (by k_asm) (by k_asm) (by k_asm) (by k_asm) (by k_is) (by k_is) (by ktr_room) (by first | exact BindsTo.of_eq rfl | exact binds_K (by k_in) rfl (by k_is) rfl rfl rfl) (by exact rfl) (by decide +kernel) (by exact rfl) (by exact rfl) (by exact rfl) ?_; k_whole; intro zqg zqL zqh zqtk zqcells zqFG zqF zqN zqY zqB zqX zqT zql1 zqe zqA; (try k_lt zql1); k_cells zqY; (try simp only [List.cons_append, List.nil_append] at zqN); (try dsimp only); (try k_lift zqB); (try ((fail_if_success (fail_if_success k_fold)); (with_reducible refine Mine.wp_fold ?_); intro zqq zqe)))))))) | walk1 | (dsimp only; walk1) | ((with_reducible show wpAny _ _ _ _ _ _); dsimp only) | (leave1; walk_say "STEP leave1"; (first | (with_reducible refine (?_ : wpAny _ _ _ _ _ _)) | try dsimp only))))
      all_goals (rename Fr _ _ _ _ => F8; rename News _ _ _ _ => N8)
      all_goals exact ⟨_, _, _, rfl, F8, N8⟩
    case w2 =>
      rintro s7 ⟨h7, tk7, t7, rfl, F7, N7⟩
      repeat' ((first | ((fail_if_success (fail_if_success k_unfold)); (first | (with_reducible refine (?_ : wpAny _ _ _ _ _ _)) | (k_unfold; (try dsimp only)))) | ((fail_if_success (fail_if_success k_fold)); (first | (goal_has PySem.exec; (fail_if_success (fail_if_success (with_reducible show wpAny _ _ (exec _ _) _ _ _)))) | (goal_has PySem.Expr.BoolOp; (fail_if_success (fail_if_success (with_reducible show wpAny _ _ (eval (PySem.Expr.BoolOp _ _ _) _) _ _ _)))) | (goal_has PySem.Expr.Call; (fail_if_success (fail_if_success (with_reducible show wpAny _ _ (eval (PySem.Expr.Call _ _ _ _) _) _ _ _)))) | (goal_has PySem.Expr.Compare; (fail_if_success (fail_if_success (with_reducible show wpAny _ _ (eval (PySem.Expr.Compare _ _ _ _) _) _ _ _))))); (with_reducible refine Mine.wp_fold ?_); intro zqq zqe) | (goal_has PySem.Shared.mk; (with_reducible refine Mine.st_let ?_); intro zqs; goal_lacks PySem.Shared.mk) | ((ctx_mentions ite List.lookup); (rename Fr _ _ _ _ => zqF9); revert zqF9; (goal_has ite List.lookup); (with_reducible refine Mine.fr_let ?_); intro zqm; goal_lacks ite List.lookup; intro zqF) | ((ctx_mentions List.cons HAppend.hAppend List.append); (rename News _ _ _ _ => zqN9); (fail_if_success (fail_if_success (conv at zqN9 => arg 4; arg 2))); (with_reducible refine Mine.news_let zqN9 ?_); intro zql zqN; clear zqN9) | (k_end; wrow_close) | (goal_has subscriptTail; first | ((fail_if_success (fail_if_success (with_reducible show wpAny _ _ (subscriptTail _ _ (Value.ref _) (Value.int _ _)) _ _ _))); k_dflt (refine' item_tupleT (by exact News.isTup (by k_asm) (by k_mem)) (by decide) (by decide) (by rfl) (by rfl) ?_; k_whole)) | ((fail_if_success (fail_if_success (with_reducible show wpAny _ _ (subscriptTail _ _ (Value.ref _) (Value.int (-1) _)) _ _ _))); k_dflt (refine' Mine.last_two (by k_asm) (by k_mem) ?_)) | ((fail_if_success (fail_if_success (with_reducible show wpAny _ _ (subscriptTail _ _ (Value.ref _) (Value.int (-1) _)) _ _ _))); k_dflt (refine' Mine.last_item (by k_asm) (by k_mem) ?_))) | (goal_has PySem.Value.builtin; first | ((fail_if_success (fail_if_success (with_reducible show wpAny _ _ (call (Value.builtin _) [Value.ref _, _]) _ _ _))); k_dflt (refine' append_K (by k_asm) (by k_asm) (by k_upd) ?_ (by ((rw [List.size_toArray, PySem.sizeLine_eq]); omega)); k_whole); intro zqh' zqF' zqN'; (try k_sweep)) | ((fail_if_success (fail_if_success (with_reducible show wpAny _ _ (call (Value.builtin "len") [Value.ref _]) _ _ _))); k_dflt (refine' kst_len (by k_asm) (by k_mem) (by exact IntsAre.length (by assumption)) (by omega) ?_; k_whole))) | (goal_has call; (fail_if_success (fail_if_success (with_reducible show wpAny _ _ (call (Value.ref _) _ _) _ _ _))); first | ((fail_if_success (fail_if_success (with_reducible show wpAny _ _ (call (Value.ref (85 : Nat)) [Value.ref _, Value.ref _]) _ _ _))); k_dflt (refine' Mine.columns_ok (by k_asm) (by k_asm) (by k_asm) (by k_asm) (by k_asm) (by k_mem) (by k_mem) (by k_mem) (by assumption) (by assumption) (by first | assumption | omega) (by first | assumption | omega) (by ktr_room) (by ktr_units) ?_); intro zqt' zqh' zqtk' zqF' zqN'; (try k_sweep); (try dsimp only); (try ((fail_if_success (fail_if_success k_fold)); (with_reducible refine Mine.wp_fold ?_); intro zqq zqe))) | (k_dflt (first | (refine' call_cls0 (by k_asm) (by k_asm) (by k_asm) (by k_is) (by k_is) ?_; k_whole; intro zqx zqd zqh zqF zqN zql1 zql2; (try ((have zqU := Mine.lts_up zql1 zql2); (dsimp +zetaDelta only [List.map] at zqU))); (try k_lt zql1); (try k_lt2 zql2); (try k_sweep)) | ((first | (refine' call_cls (by k_asm) (by k_asm) (by k_asm) (by k_is) (by k_is) (by k_is) ?_; k_whole; intro zqx zqd zqh zqF zqN zql1 zql2; (try ((have zqU := Mine.lts_up zql1 zql2); (dsimp +zetaDelta only [List.map] at zqU))); (try k_lt zql1); (try k_lt2 zql2); (try k_sweep)) | (refine' Mine.call_fn (by k_asm) (by k_is) ?_; k_whole) | (refine' call_meth (by k_asm) (by k_mem) ?_; k_whole) | refine wpAny_call ?_); (first | (refine' code_defL (by exact rfl) (by exact rfl) (by first | exact rfl | assumption) (by k_asm) (by k_asm) (by k_asm) (by k_asm) (by k_asm) (by k_is) (by k_is) (by decide) (by ktr_room) (by first | exact BindsTo.of_eq rfl | exact binds_K (by k_in) rfl (by k_is) rfl rfl rfl) (by exact locs rfl) (by exact rfl) (by exact rfl) (by exact rfl) ?_; k_whole; intro zqg zqL zqh zqtk zqFG zqF zqN zqB zqX zqT zqe zqA; (try k_lift zqB); (try ((fail_if_success (fail_if_success k_fold)); (with_reducible refine Mine.wp_fold ?_); intro zqq zqe))) | (refine' code_defCL (by exact rfl) (by exact rfl) (by exact rfl) (by k_asm) (by k_asm) (by k_asm) (by k_asm) (by k_asm) (by k_is) (by k_is) (by ktr_room) (by first | exact BindsTo.of_eq rfl | exact binds_K (by k_in) rfl (by k_is) rfl rfl rfl) (by exact rfl) (by decide +kernel) (by exact rfl) (by exact rfl) (by exact rfl) ?_; k_whole; intro zqg zqL zqh zqtk zqcells zqFG zqF zqN zqY zqB zqX zqT zql1 zqe zqA; (try k_lt zql1); k_cells zqY; (try simp only [List.cons_append, List.nil_append] at zqN); (try dsimp only); (try k_lift zqB); (try ((fail_if_success (fail_if_success k_fold)); (with_reducible refine Mine.wp_fold ?_); intro zqq zqe)))))))) | walk1 | (dsimp only; walk1) | ((with_reducible show wpAny _ _ _ _ _ _); dsimp only) | (leave1; walk_say "STEP leave1"; (first | (with_reducible refine (?_ : wpAny _ _ _ _ _ _)) | try dsimp only))))
      all_goals (subst hln; subst hzs; refine' ret _ _ (tokF [_, _, _, _, _, _, _, _, _, _, _, _, _, _, _, _, _, _, _, _, _, _, _]) _ _ _ _ ?e1 ?e2 ?e3 ?e4 ?e5 ?e6; (case e5 => k_asm); (case e6 => exact cb_drop (by assumption) (by kcj_all)); (case e1 => rfl); (case e2 => first | exact ⟨fun _ => .inl (by assumption), fun _ => rfl⟩ | (rw [decide_eq_true_iff]; omega)); (case e3 => exact kst_ltOf (And.right (by assumption))); (case e4 => omega))
  )) only [↓Mine.wrap_i]
end
section
variable {prog : Program} {w : World} {p : Program} {loose : List Str} {mean : ExcName → Option Value} {mg mb : Str → Option Value} {dp un : Nat} {gd : Option (List Code)} {cn : Str} {cnm : List (Str × NameKind)} {cg cc : Bool} {cm : List (Str × Const)} {a : Addr} {ccd : Value} {cl : List (Str × Addr)} {outer : List Env} {A₀ : Around} {base h₀ : Heap} {L : Addr} {m : Str → Option Value} {s : Shared} {Q E : Value → Shared → Prop}

/-- Row(start, 0) -/
theorem row_ok {tp : Addr} {st z : Int} {t0 ta tb : Tok} {ntp : Nat} {own : List (Addr × Obj)}
    (B : Below A₀ base outer h₀) (F : Fr h₀ L s.heap m) (X : (Mine.fr.heap_1_1 w.params).In h₀) (N : News h₀ L s.heap own) (TT : Top p loose mean mg mb h₀)
    (mtp : (tp, ({ cls := .type "tuple", data := .seq #[.int st ta, .int z tb] ntp } : Obj)) ∈ own)
    (hd : dp + 5 < recursionLimit) (hu : un + 200 < cLine)
    (ret : ∀ r rd gl T h' tk', (∀ q ∈ own, q.1 < rd) → @LT.lt Nat _ rd r → Fr h₀ L h' m → News h₀ L h' ((r, instObj 884 rd) :: (rd, rowO w.params T tp tp gl st false) :: own) → Q (.ref r) { s with heap := h', toks := tk' }) :
    wpAny (model prog w) (ktrTop dp un gd cn ⟨.function, cnm, cg, cc, cm⟩ L a ccd cl outer) (call (.ref (884 : Nat)) [.ref tp, .int 0 t0]) Q E s := by
  refine Mine.unwrap ?_
  simp (disch := k_dflt (
  have _h : PySem.Challenge.rw_on0075_01 = PySem.Challenge.rw_on0075_01 ∧ Mine.fr.heap_1_1 = Mine.fr.heap_1_1 := by (k_fill; exact ⟨rfl, rfl⟩)
  clear _h
  w_top off
  repeat' ((fail_if_success (with_reducible show wpAny _ _ (execs (PySem.Stmt.Assign _ _ _ :: _) _) _ _ _)); (first | ((fail_if_success (fail_if_success k_unfold)); (first | (with_reducible refine (?_ : wpAny _ _ _ _ _ _)) | (k_unfold; (try dsimp only)))) | ((fail_if_success (fail_if_success k_fold)); (first | (goal_has PySem.exec; (fail_if_success (fail_if_success (with_reducible show wpAny _ _ (exec _ _) _ _ _)))) | (goal_has PySem.Expr.BoolOp; (fail_if_success (fail_if_success (with_reducible show wpAny _ _ (eval (PySem.Expr.BoolOp _ _ _) _) _ _ _)))) | (goal_has PySem.Expr.Call; (fail_if_success (fail_if_success (with_reducible show wpAny _ _ (eval (PySem.Expr.Call _ _ _ _) _) _ _ _)))) | (goal_has PySem.Expr.Compare; (fail_if_success (fail_if_success (with_reducible show wpAny _ _ (eval (PySem.Expr.Compare _ _ _ _) _) _ _ _))))); (with_reducible refine Mine.wp_fold ?_); intro zqq zqe) | (goal_has PySem.Shared.mk; (with_reducible refine Mine.st_let ?_); intro zqs; goal_lacks PySem.Shared.mk) | ((ctx_mentions ite List.lookup); (rename Fr _ _ _ _ => zqF9); revert zqF9; (goal_has ite List.lookup); (with_reducible refine Mine.fr_let ?_); intro zqm; goal_lacks ite List.lookup; intro zqF) | ((ctx_mentions List.cons HAppend.hAppend List.append); (rename News _ _ _ _ => zqN9); (fail_if_success (fail_if_success (conv at zqN9 => arg 4; arg 2))); (with_reducible refine Mine.news_let zqN9 ?_); intro zql zqN; clear zqN9) | (k_end; wrow_close) | (goal_has subscriptTail; ((fail_if_success (fail_if_success (with_reducible show wpAny _ _ (subscriptTail _ _ (Value.ref _) (Value.int _ _)) _ _ _))); k_dflt (refine' item_tupleT (by exact News.isTup (by k_asm) (by k_mem)) (by decide) (by decide) (by rfl) (by rfl) ?_; k_whole))) | (goal_has call; (fail_if_success (fail_if_success (with_reducible show wpAny _ _ (call (Value.ref _) _ _) _ _ _))); first | (k_dflt (first | (refine' call_cls0 (by k_asm) (by k_asm) (by k_asm) (by k_is) (by k_is) ?_; k_whole; intro zqx zqd zqh zqF zqN zql1 zql2; (try ((have zqU := Mine.lts_up zql1 zql2); (dsimp +zetaDelta only [List.map] at zqU))); (try k_lt zql1); (try k_lt2 zql2); (try k_sweep)) | ((first | (refine' call_cls (by k_asm) (by k_asm) (by k_asm) (by k_is) (by k_is) (by k_is) ?_; k_whole; intro zqx zqd zqh zqF zqN zql1 zql2; (try ((have zqU := Mine.lts_up zql1 zql2); (dsimp +zetaDelta only [List.map] at zqU))); (try k_lt zql1); (try k_lt2 zql2); (try k_sweep)) | (refine' Mine.call_fn (by k_asm) (by k_is) ?_; k_whole) | (refine' call_meth (by k_asm) (by k_mem) ?_; k_whole) | refine wpAny_call ?_); (first | (refine' code_defL (by exact rfl) (by exact rfl) (by first | exact rfl | assumption) (by k_asm) (by k_asm) (by k_asm) (by k_asm) (by k_asm) (by k_is) (by k_is) (by decide) (by ktr_room) (by first | exact BindsTo.of_eq rfl | exact binds_K (by k_in) rfl (by k_is) rfl rfl rfl) (by exact locs rfl) (by exact rfl) (by exact rfl) (by exact rfl) ?_; k_whole; intro zqg zqL zqh zqtk zqFG zqF zqN zqB zqX zqT zqe zqA; (try k_lift zqB); (try ((fail_if_success (fail_if_success k_fold)); (with_reducible refine Mine.wp_fold ?_); intro zqq zqe))) | (refine' code_defCL (by exact rfl) (by exact rfl) (by exact rfl) (by k_asm) (by k_asm) (by k_asm) (by k_asm) (by k_asm) (by k_is) (by k_is) (by ktr_room) (by first | exact BindsTo.of_eq rfl | exact binds_K (by k_in) rfl (by k_is) rfl rfl rfl) (by exact rfl) (by decide +kernel) (by exact rfl) (by exact rfl) (by exact rfl) ?_; k_whole; intro zqg zqL zqh zqtk zqcells zqFG zqF zqN zqY zqB zqX zqT zql1 zqe zqA; (try k_lt zql1); k_cells zqY; (try simp only [List.cons_append, List.nil_append] at zqN); (try dsimp only); (try k_lift zqB); (try ((fail_if_success (fail_if_success k_fold)); (with_reducible refine Mine.wp_fold ?_); intro zqq zqe)))))))) | walk1 | (dsimp only; walk1) | ((with_reducible show wpAny _ _ _ _ _ _); dsimp only) | (leave1; walk_say "STEP leave1"; (first | (with_reducible refine (?_ : wpAny _ _ _ _ _ _)) | try dsimp only))))
  (with_reducible refine Mine.st_let ?_); intro zqs; (refine' Mine.stores_run (news := fun o => (_, _) :: (_, o) :: _) (by exact (Mine.Stores.cons Mine.IsSrc.name (Mine.Stores.cons Mine.IsSrc.name (Mine.Stores.cons Mine.IsSrc.name (Mine.Stores.cons Mine.IsSrc.name (Mine.Stores.cons Mine.IsSrc.list0 (Mine.Stores.cons Mine.IsSrc.bool (Mine.Stores.cons Mine.IsSrc.bool (Mine.Stores.cons Mine.IsSrc.bool Mine.Stores.nil))))))))) (by k_asm) (by k_asm) (by k_asm) (by exact Top.nolimit (by k_asm)) (by exact rfl) (by exact rfl) (by exact rfl) (by exact rfl) (by exact fun _ => List.Mem.head _) (by (intro o o'; k_upd)) (by k_is) (by k_is) (by k_is) (by repeat' (first | exact True.intro | refine And.intro ?_ ?_ | k_is | exact rfl)) (by kernel_rfl) (by decide +kernel) (by exact Nat.le_of_ble_eq_true rfl) ?_; intro T' Ad' h' tk' F' N'; (try k_sweep))
  repeat' ((first | ((fail_if_success (fail_if_success k_unfold)); (first | (with_reducible refine (?_ : wpAny _ _ _ _ _ _)) | (k_unfold; (try dsimp only)))) | ((fail_if_success (fail_if_success k_fold)); (first | (goal_has PySem.exec; (fail_if_success (fail_if_success (with_reducible show wpAny _ _ (exec _ _) _ _ _)))) | (goal_has PySem.Expr.BoolOp; (fail_if_success (fail_if_success (with_reducible show wpAny _ _ (eval (PySem.Expr.BoolOp _ _ _) _) _ _ _)))) | (goal_has PySem.Expr.Call; (fail_if_success (fail_if_success (with_reducible show wpAny _ _ (eval (PySem.Expr.Call _ _ _ _) _) _ _ _)))) | (goal_has PySem.Expr.Compare; (fail_if_success (fail_if_success (with_reducible show wpAny _ _ (eval (PySem.Expr.Compare _ _ _ _) _) _ _ _))))); (with_reducible refine Mine.wp_fold ?_); intro zqq zqe) | (goal_has PySem.Shared.mk; (with_reducible refine Mine.st_let ?_); intro zqs; goal_lacks PySem.Shared.mk) | ((ctx_mentions ite List.lookup); (rename Fr _ _ _ _ => zqF9); revert zqF9; (goal_has ite List.lookup); (with_reducible refine Mine.fr_let ?_); intro zqm; goal_lacks ite List.lookup; intro zqF) | ((ctx_mentions List.cons HAppend.hAppend List.append); (rename News _ _ _ _ => zqN9); (fail_if_success (fail_if_success (conv at zqN9 => arg 4; arg 2))); (with_reducible refine Mine.news_let zqN9 ?_); intro zql zqN; clear zqN9) | (k_end; wrow_close) | (goal_has subscriptTail; ((fail_if_success (fail_if_success (with_reducible show wpAny _ _ (subscriptTail _ _ (Value.ref _) (Value.int _ _)) _ _ _))); k_dflt (refine' item_tupleT (by exact News.isTup (by k_asm) (by k_mem)) (by decide) (by decide) (by rfl) (by rfl) ?_; k_whole))) | (goal_has call; (fail_if_success (fail_if_success (with_reducible show wpAny _ _ (call (Value.ref _) _ _) _ _ _))); first | (k_dflt (first | (refine' call_cls0 (by k_asm) (by k_asm) (by k_asm) (by k_is) (by k_is) ?_; k_whole; intro zqx zqd zqh zqF zqN zql1 zql2; (try ((have zqU := Mine.lts_up zql1 zql2); (dsimp +zetaDelta only [List.map] at zqU))); (try k_lt zql1); (try k_lt2 zql2); (try k_sweep)) | ((first | (refine' call_cls (by k_asm) (by k_asm) (by k_asm) (by k_is) (by k_is) (by k_is) ?_; k_whole; intro zqx zqd zqh zqF zqN zql1 zql2; (try ((have zqU := Mine.lts_up zql1 zql2); (dsimp +zetaDelta only [List.map] at zqU))); (try k_lt zql1); (try k_lt2 zql2); (try k_sweep)) | (refine' Mine.call_fn (by k_asm) (by k_is) ?_; k_whole) | (refine' call_meth (by k_asm) (by k_mem) ?_; k_whole) | refine wpAny_call ?_); (first | (refine' code_defL (by exact rfl) (by exact rfl) (by first | exact rfl | assumption) (by k_asm) (by k_asm) (by k_asm) (by k_asm) (by k_asm) (by k_is) (by k_is) (by decide) (by ktr_room) (by first | exact BindsTo.of_eq rfl | exact binds_K (by k_in) rfl (by k_is) rfl rfl rfl) (by exact locs rfl) (by exact rfl) (by exact rfl) (by exact rfl) ?_; k_whole; intro zqg zqL zqh zqtk zqFG zqF zqN zqB zqX zqT zqe zqA; (try k_lift zqB); (try ((fail_if_success (fail_if_success k_fold)); (with_reducible refine Mine.wp_fold ?_); intro zqq zqe))) | (refine' code_defCL (by exact rfl) (by exact rfl) (by exact rfl) (by k_asm) (by k_asm) (by k_asm) (by k_asm) (by k_asm) (by k_is) (by k_is) (by ktr_room) (by first | exact BindsTo.of_eq rfl | exact binds_K (by k_in) rfl (by k_is) rfl rfl rfl) (by exact rfl) (by decide +kernel) (by exact rfl) (by exact rfl) (by exact rfl) ?_; k_whole; intro zqg zqL zqh zqtk zqcells zqFG zqF zqN zqY zqB zqX zqT zql1 zqe zqA; (try k_lt zql1); k_cells zqY; (try simp only [List.cons_append, List.nil_append] at zqN); (try dsimp only); (try k_lift zqB); (try ((fail_if_success (fail_if_success k_fold)); (with_reducible refine Mine.wp_fold ?_); intro zqq zqe)))))))) | walk1 | (dsimp only; walk1) | ((with_reducible show wpAny _ _ _ _ _ _); dsimp only) | (leave1; walk_say "STEP leave1"; (first | (with_reducible refine (?_ : wpAny _ _ _ _ _ _)) | try dsimp only))))
  all_goals (refine' ret _ _ _ (tokF [_, _, _, _, _, _, _, _, _, _, _, _, _, _]) _ _ ?e1 ?e2 ?e3 ?e4; (case e3 => k_asm); (case e4 => exact cb_drop (by assumption) (by kcj_all)); (case e1 => first | assumption | exact kst_ltOf (by assumption)); (case e2 => omega))
  )) only [↓Mine.wrap_i]

/-- Options(width) -/
theorem opt_ok {wd : Int} {t0 : Tok} {own : List (Addr × Obj)}
    (B : Below A₀ base outer h₀) (F : Fr h₀ L s.heap m) (X : (Mine.fr.heap_1_1 w.params).In h₀) (N : News h₀ L s.heap own) (TT : Top p loose mean mg mb h₀)
    (hd : dp + 5 < recursionLimit) (hu : un + 200 < cLine)
    (ret : ∀ o od T h' tk', (∀ q ∈ own, q.1 < od) → @LT.lt Nat _ od o → Fr h₀ L h' m → News h₀ L h' ((o, instObj 39 od) :: (od, optO w.params T wd) :: own) → Q (.ref o) { s with heap := h', toks := tk' }) :
    wpAny (model prog w) (ktrTop dp un gd cn ⟨.function, cnm, cg, cc, cm⟩ L a ccd cl outer) (call (.ref (39 : Nat)) [.int wd t0]) Q E s := by
  refine Mine.unwrap ?_
  simp (disch := k_dflt (
  have _h : PySem.Challenge.rw_on0075_01 = PySem.Challenge.rw_on0075_01 ∧ Mine.fr.heap_1_1 = Mine.fr.heap_1_1 := by (k_fill; exact ⟨rfl, rfl⟩)
  clear _h
  w_top off
  repeat' ((fail_if_success (with_reducible show wpAny _ _ (execs (PySem.Stmt.Assign _ _ _ :: _) _) _ _ _)); (first | ((fail_if_success (fail_if_success k_unfold)); (first | (with_reducible refine (?_ : wpAny _ _ _ _ _ _)) | (k_unfold; (try dsimp only)))) | ((fail_if_success (fail_if_success k_fold)); (first | (goal_has PySem.exec; (fail_if_success (fail_if_success (with_reducible show wpAny _ _ (exec _ _) _ _ _)))) | (goal_has PySem.Expr.BoolOp; (fail_if_success (fail_if_success (with_reducible show wpAny _ _ (eval (PySem.Expr.BoolOp _ _ _) _) _ _ _)))) | (goal_has PySem.Expr.Call; (fail_if_success (fail_if_success (with_reducible show wpAny _ _ (eval (PySem.Expr.Call _ _ _ _) _) _ _ _)))) | (goal_has PySem.Expr.Compare; (fail_if_success (fail_if_success (with_reducible show wpAny _ _ (eval (PySem.Expr.Compare _ _ _ _) _) _ _ _))))); (with_reducible refine Mine.wp_fold ?_); intro zqq zqe) | (goal_has PySem.Shared.mk; (with_reducible refine Mine.st_let ?_); intro zqs; goal_lacks PySem.Shared.mk) | ((ctx_mentions ite List.lookup); (rename Fr _ _ _ _ => zqF9); revert zqF9; (goal_has ite List.lookup); (with_reducible refine Mine.fr_let ?_); intro zqm; goal_lacks ite List.lookup; intro zqF) | ((ctx_mentions List.cons HAppend.hAppend List.append); (rename News _ _ _ _ => zqN9); (fail_if_success (fail_if_success (conv at zqN9 => arg 4; arg 2))); (with_reducible refine Mine.news_let zqN9 ?_); intro zql zqN; clear zqN9) | (k_end; wrow_close) | (goal_has subscriptTail; ((fail_if_success (fail_if_success (with_reducible show wpAny _ _ (subscriptTail _ _ (Value.ref _) (Value.int _ _)) _ _ _))); k_dflt (refine' item_tupleT (by exact News.isTup (by k_asm) (by k_mem)) (by decide) (by decide) (by rfl) (by rfl) ?_; k_whole))) | (goal_has call; (fail_if_success (fail_if_success (with_reducible show wpAny _ _ (call (Value.ref _) _ _) _ _ _))); first | (k_dflt (first | (refine' call_cls0 (by k_asm) (by k_asm) (by k_asm) (by k_is) (by k_is) ?_; k_whole; intro zqx zqd zqh zqF zqN zql1 zql2; (try ((have zqU := Mine.lts_up zql1 zql2); (dsimp +zetaDelta only [List.map] at zqU))); (try k_lt zql1); (try k_lt2 zql2); (try k_sweep)) | ((first | (refine' call_cls (by k_asm) (by k_asm) (by k_asm) (by k_is) (by k_is) (by k_is) ?_; k_whole; intro zqx zqd zqh zqF zqN zql1 zql2; (try ((have zqU := Mine.lts_up zql1 zql2); (dsimp +zetaDelta only [List.map] at zqU))); (try k_lt zql1); (try k_lt2 zql2); (try k_sweep)) | (refine' Mine.call_fn (by k_asm) (by k_is) ?_; k_whole) | (refine' call_meth (by k_asm) (by k_mem) ?_; k_whole) | refine wpAny_call ?_); (first | (refine' code_defL (by exact rfl) (by exact rfl) (by first | exact rfl | assumption) (by k_asm) (by k_asm) (by k_asm) (by k_asm) (by k_asm) (by k_is) (by k_is) (by decide) (by ktr_room) (by first | exact BindsTo.of_eq rfl | exact binds_K (by k_in) rfl (by k_is) rfl rfl rfl) (by exact locs rfl) (by exact rfl) (by exact rfl) (by exact rfl) ?_; k_whole; intro zqg zqL zqh zqtk zqFG zqF zqN zqB zqX zqT zqe zqA; (try k_lift zqB); (try ((fail_if_success (fail_if_success k_fold)); (with_reducible refine Mine.wp_fold ?_); intro zqq zqe))) | (refine' code_defCL (by exact rfl) (by exact rfl) (by exact rfl) (by k_asm) (by k_asm) (by k_asm) (by k_asm) (by k_asm) (by k_is) (by k_is) (by ktr_room) (by first | exact BindsTo.of_eq rfl | exact binds_K (by k_in) rfl (by k_is) rfl rfl rfl) (by exact rfl) (by decide +kernel) (by exact rfl) (by exact rfl) (by exact rfl) ?_; k_whole; intro zqg zqL zqh zqtk zqcells zqFG zqF zqN zqY zqB zqX zqT zql1 zqe zqA; (try k_lt zql1); k_cells zqY; (try simp only [List.cons_append, List.nil_append] at zqN); (try dsimp only); (try k_lift zqB); (try ((fail_if_success (fail_if_success k_fold)); (with_reducible refine Mine.wp_fold ?_); intro zqq zqe)))))))) | walk1 | (dsimp only; walk1) | ((with_reducible show wpAny _ _ _ _ _ _); dsimp only) | (leave1; walk_say "STEP leave1"; (first | (with_reducible refine (?_ : wpAny _ _ _ _ _ _)) | try dsimp only))))
  (with_reducible refine Mine.st_let ?_); intro zqs; (refine' Mine.stores_run (news := fun o => (_, _) :: (_, o) :: _) (by exact (Mine.Stores.cons Mine.IsSrc.name (Mine.Stores.cons Mine.IsSrc.name (Mine.Stores.cons Mine.IsSrc.name (Mine.Stores.cons Mine.IsSrc.name (Mine.Stores.cons Mine.IsSrc.name Mine.Stores.nil)))))) (by k_asm) (by k_asm) (by k_asm) (by exact Top.nolimit (by k_asm)) (by exact rfl) (by exact rfl) (by exact rfl) (by exact rfl) (by exact fun _ => List.Mem.head _) (by (intro o o'; k_upd)) (by k_is) (by k_is) (by k_is) (by repeat' (first | exact True.intro | refine And.intro ?_ ?_ | k_is | exact rfl)) (by kernel_rfl) (by decide +kernel) (by exact Nat.le_of_ble_eq_true rfl) ?_; intro T' Ad' h' tk' F' N'; (try k_sweep))
  repeat' ((first | ((fail_if_success (fail_if_success k_unfold)); (first | (with_reducible refine (?_ : wpAny _ _ _ _ _ _)) | (k_unfold; (try dsimp only)))) | ((fail_if_success (fail_if_success k_fold)); (first | (goal_has PySem.exec; (fail_if_success (fail_if_success (with_reducible show wpAny _ _ (exec _ _) _ _ _)))) | (goal_has PySem.Expr.BoolOp; (fail_if_success (fail_if_success (with_reducible show wpAny _ _ (eval (PySem.Expr.BoolOp _ _ _) _) _ _ _)))) | (goal_has PySem.Expr.Call; (fail_if_success (fail_if_success (with_reducible show wpAny _ _ (eval (PySem.Expr.Call _ _ _ _) _) _ _ _)))) | (goal_has PySem.Expr.Compare; (fail_if_success (fail_if_success (with_reducible show wpAny _ _ (eval (PySem.Expr.Compare _ _ _ _) _) _ _ _))))); (with_reducible refine Mine.wp_fold ?_); intro zqq zqe) | (goal_has PySem.Shared.mk; (with_reducible refine Mine.st_let ?_); intro zqs; goal_lacks PySem.Shared.mk) | ((ctx_mentions ite List.lookup); (rename Fr _ _ _ _ => zqF9); revert zqF9; (goal_has ite List.lookup); (with_reducible refine Mine.fr_let ?_); intro zqm; goal_lacks ite List.lookup; intro zqF) | ((ctx_mentions List.cons HAppend.hAppend List.append); (rename News _ _ _ _ => zqN9); (fail_if_success (fail_if_success (conv at zqN9 => arg 4; arg 2))); (with_reducible refine Mine.news_let zqN9 ?_); intro zql zqN; clear zqN9) | (k_end; wrow_close) | (goal_has subscriptTail; ((fail_if_success (fail_if_success (with_reducible show wpAny _ _ (subscriptTail _ _ (Value.ref _) (Value.int _ _)) _ _ _))); k_dflt (refine' item_tupleT (by exact News.isTup (by k_asm) (by k_mem)) (by decide) (by decide) (by rfl) (by rfl) ?_; k_whole))) | (goal_has call; (fail_if_success (fail_if_success (with_reducible show wpAny _ _ (call (Value.ref _) _ _) _ _ _))); first | (k_dflt (first | (refine' call_cls0 (by k_asm) (by k_asm) (by k_asm) (by k_is) (by k_is) ?_; k_whole; intro zqx zqd zqh zqF zqN zql1 zql2; (try ((have zqU := Mine.lts_up zql1 zql2); (dsimp +zetaDelta only [List.map] at zqU))); (try k_lt zql1); (try k_lt2 zql2); (try k_sweep)) | ((first | (refine' call_cls (by k_asm) (by k_asm) (by k_asm) (by k_is) (by k_is) (by k_is) ?_; k_whole; intro zqx zqd zqh zqF zqN zql1 zql2; (try ((have zqU := Mine.lts_up zql1 zql2); (dsimp +zetaDelta only [List.map] at zqU))); (try k_lt zql1); (try k_lt2 zql2); (try k_sweep)) | (refine' Mine.call_fn (by k_asm) (by k_is) ?_; k_whole) | (refine' call_meth (by k_asm) (by k_mem) ?_; k_whole) | refine wpAny_call ?_); (first | (refine' code_defL (by exact rfl) (by exact rfl) (by first | exact rfl | assumption) (by k_asm) (by k_asm) (by k_asm) (by k_asm) (by k_asm) (by k_is) (by k_is) (by decide) (by ktr_room) (by first | exact BindsTo.of_eq rfl | exact binds_K (by k_in) rfl (by k_is) rfl rfl rfl) (by exact locs rfl) (by exact rfl) (by exact rfl) (by exact rfl) ?_; k_whole; intro zqg zqL zqh zqtk zqFG zqF zqN zqB zqX zqT zqe zqA; (try k_lift zqB); (try ((fail_if_success (fail_if_success k_fold)); (with_reducible refine Mine.wp_fold ?_); intro zqq zqe))) | (refine' code_defCL (by exact rfl) (by exact rfl) (by exact rfl) (by k_asm) (by k_asm) (by k_asm) (by k_asm) (by k_asm) (by k_is) (by k_is) (by ktr_room) (by first | exact BindsTo.of_eq rfl | exact binds_K (by k_in) rfl (by k_is) rfl rfl rfl) (by exact rfl) (by decide +kernel) (by exact rfl) (by exact rfl) (by exact rfl) ?_; k_whole; intro zqg zqL zqh zqtk zqcells zqFG zqF zqN zqY zqB zqX zqT zql1 zqe zqA; (try k_lt zql1); k_cells zqY; (try simp only [List.cons_append, List.nil_append] at zqN); (try dsimp only); (try k_lift zqB); (try ((fail_if_success (fail_if_success k_fold)); (with_reducible refine Mine.wp_fold ?_); intro zqq zqe)))))))) | walk1 | (dsimp only; walk1) | ((with_reducible show wpAny _ _ _ _ _ _); dsimp only) | (leave1; walk_say "STEP leave1"; (first | (with_reducible refine (?_ : wpAny _ _ _ _ _ _)) | try dsimp only))))
  all_goals (refine' ret _ _ (tokF [_, _, _, _, _, _, _]) _ _ ?e1 ?e2 ?e3 ?e4; (case e3 => k_asm); (case e4 => exact cb_drop (by assumption) (by kcj_all)); (case e1 => first | assumption | exact kst_ltOf (by assumption)); (case e2 => omega))
  )) only [↓Mine.wrap_i]

/-- BufferTable() -/
theorem bt_ok {own : List (Addr × Obj)}
    (B : Below A₀ base outer h₀) (F : Fr h₀ L s.heap m) (X : (Mine.fr.heap_1_1 w.params).In h₀) (N : News h₀ L s.heap own) (TT : Top p loose mean mg mb h₀)
    (hd : dp + 5 < recursionLimit) (hu : un + 200 < cLine)
    (ret : ∀ x h' tk', Fr h₀ L h' m → News h₀ L h' own → Q (.ref x) { s with heap := h', toks := tk' }) :
    wpAny (model prog w) (ktrTop dp un gd cn ⟨.function, cnm, cg, cc, cm⟩ L a ccd cl outer) (call (.ref (578 : Nat)) []) Q E s := by
  refine Mine.unwrap ?_
  simp (disch := k_dflt (
  have _h : PySem.Challenge.rw_on0075_01 = PySem.Challenge.rw_on0075_01 ∧ Mine.fr.heap_1_1 = Mine.fr.heap_1_1 := by (k_fill; exact ⟨rfl, rfl⟩)
  clear _h
  w_top off
  repeat' ((fail_if_success (with_reducible show wpAny _ _ (execs (PySem.Stmt.Assign _ _ _ :: _) _) _ _ _)); (first | ((fail_if_success (fail_if_success k_unfold)); (first | (with_reducible refine (?_ : wpAny _ _ _ _ _ _)) | (k_unfold; (try dsimp only)))) | ((fail_if_success (fail_if_success k_fold)); (first | (goal_has PySem.exec; (fail_if_success (fail_if_success (with_reducible show wpAny _ _ (exec _ _) _ _ _)))) | (goal_has PySem.Expr.BoolOp; (fail_if_success (fail_if_success (with_reducible show wpAny _ _ (eval (PySem.Expr.BoolOp _ _ _) _) _ _ _)))) | (goal_has PySem.Expr.Call; (fail_if_success (fail_if_success (with_reducible show wpAny _ _ (eval (PySem.Expr.Call _ _ _ _) _) _ _ _)))) | (goal_has PySem.Expr.Compare; (fail_if_success (fail_if_success (with_reducible show wpAny _ _ (eval (PySem.Expr.Compare _ _ _ _) _) _ _ _))))); (with_reducible refine Mine.wp_fold ?_); intro zqq zqe) | (goal_has PySem.Shared.mk; (with_reducible refine Mine.st_let ?_); intro zqs; goal_lacks PySem.Shared.mk) | ((ctx_mentions ite List.lookup); (rename Fr _ _ _ _ => zqF9); revert zqF9; (goal_has ite List.lookup); (with_reducible refine Mine.fr_let ?_); intro zqm; goal_lacks ite List.lookup; intro zqF) | ((ctx_mentions List.cons HAppend.hAppend List.append); (rename News _ _ _ _ => zqN9); (fail_if_success (fail_if_success (conv at zqN9 => arg 4; arg 2))); (with_reducible refine Mine.news_let zqN9 ?_); intro zql zqN; clear zqN9) | (k_end; wrow_close) | (goal_has subscriptTail; ((fail_if_success (fail_if_success (with_reducible show wpAny _ _ (subscriptTail _ _ (Value.ref _) (Value.int _ _)) _ _ _))); k_dflt (refine' item_tupleT (by exact News.isTup (by k_asm) (by k_mem)) (by decide) (by decide) (by rfl) (by rfl) ?_; k_whole))) | (goal_has call; (fail_if_success (fail_if_success (with_reducible show wpAny _ _ (call (Value.ref _) _ _) _ _ _))); first | (k_dflt (first | (refine' call_cls0 (by k_asm) (by k_asm) (by k_asm) (by k_is) (by k_is) ?_; k_whole; intro zqx zqd zqh zqF zqN zql1 zql2; (try ((have zqU := Mine.lts_up zql1 zql2); (dsimp +zetaDelta only [List.map] at zqU))); (try k_lt zql1); (try k_lt2 zql2); (try k_sweep)) | ((first | (refine' call_cls (by k_asm) (by k_asm) (by k_asm) (by k_is) (by k_is) (by k_is) ?_; k_whole; intro zqx zqd zqh zqF zqN zql1 zql2; (try ((have zqU := Mine.lts_up zql1 zql2); (dsimp +zetaDelta only [List.map] at zqU))); (try k_lt zql1); (try k_lt2 zql2); (try k_sweep)) | (refine' Mine.call_fn (by k_asm) (by k_is) ?_; k_whole) | (refine' call_meth (by k_asm) (by k_mem) ?_; k_whole) | refine wpAny_call ?_); (first | (refine' code_defL (by exact rfl) (by exact rfl) (by first | exact rfl | assumption) (by k_asm) (by k_asm) (by k_asm) (by k_asm) (by k_asm) (by k_is) (by k_is) (by decide) (by ktr_room) (by first | exact BindsTo.of_eq rfl | exact binds_K (by k_in) rfl (by k_is) rfl rfl rfl) (by exact locs rfl) (by exact rfl) (by exact rfl) (by exact rfl) ?_; k_whole; intro zqg zqL zqh zqtk zqFG zqF zqN zqB zqX zqT zqe zqA; (try k_lift zqB); (try ((fail_if_success (fail_if_success k_fold)); (with_reducible refine Mine.wp_fold ?_); intro zqq zqe))) | (refine' code_defCL (by exact rfl) (by exact rfl) (by exact rfl) (by k_asm) (by k_asm) (by k_asm) (by k_asm) (by k_asm) (by k_is) (by k_is) (by ktr_room) (by first | exact BindsTo.of_eq rfl | exact binds_K (by k_in) rfl (by k_is) rfl rfl rfl) (by exact rfl) (by decide +kernel) (by exact rfl) (by exact rfl) (by exact rfl) ?_; k_whole; intro zqg zqL zqh zqtk zqcells zqFG zqF zqN zqY zqB zqX zqT zql1 zqe zqA; (try k_lt zql1); k_cells zqY; (try simp only [List.cons_append, List.nil_append] at zqN); (try dsimp only); (try k_lift zqB); (try ((fail_if_success (fail_if_success k_fold)); (with_reducible refine Mine.wp_fold ?_); intro zqq zqe)))))))) | walk1 | (dsimp only; walk1) | ((with_reducible show wpAny _ _ _ _ _ _); dsimp only) | (leave1; walk_say "STEP leave1"; (first | (with_reducible refine (?_ : wpAny _ _ _ _ _ _)) | try dsimp only))))
  (with_reducible refine Mine.st_let ?_); intro zqs; (refine' Mine.stores_run (news := fun o => (_, _) :: (_, o) :: _) (by exact (Mine.Stores.cons Mine.IsSrc.dict0 (Mine.Stores.cons Mine.IsSrc.list0 (Mine.Stores.cons Mine.IsSrc.int (Mine.Stores.cons Mine.IsSrc.int (Mine.Stores.cons Mine.IsSrc.int Mine.Stores.nil)))))) (by k_asm) (by k_asm) (by k_asm) (by exact Top.nolimit (by k_asm)) (by exact rfl) (by exact rfl) (by exact rfl) (by exact rfl) (by exact fun _ => List.Mem.head _) (by (intro o o'; k_upd)) (by k_is) (by k_is) (by k_is) (by repeat' (first | exact True.intro | refine And.intro ?_ ?_ | k_is | exact rfl)) (by kernel_rfl) (by decide +kernel) (by exact Nat.le_of_ble_eq_true rfl) ?_; intro T' Ad' h' tk' F' N'; (try k_sweep))
  repeat' ((first | ((fail_if_success (fail_if_success k_unfold)); (first | (with_reducible refine (?_ : wpAny _ _ _ _ _ _)) | (k_unfold; (try dsimp only)))) | ((fail_if_success (fail_if_success k_fold)); (first | (goal_has PySem.exec; (fail_if_success (fail_if_success (with_reducible show wpAny _ _ (exec _ _) _ _ _)))) | (goal_has PySem.Expr.BoolOp; (fail_if_success (fail_if_success (with_reducible show wpAny _ _ (eval (PySem.Expr.BoolOp _ _ _) _) _ _ _)))) | (goal_has PySem.Expr.Call; (fail_if_success (fail_if_success (with_reducible show wpAny _ _ (eval (PySem.Expr.Call _ _ _ _) _) _ _ _)))) | (goal_has PySem.Expr.Compare; (fail_if_success (fail_if_success (with_reducible show wpAny _ _ (eval (PySem.Expr.Compare _ _ _ _) _) _ _ _))))); (with_reducible refine Mine.wp_fold ?_); intro zqq zqe) | (goal_has PySem.Shared.mk; (with_reducible refine Mine.st_let ?_); intro zqs; goal_lacks PySem.Shared.mk) | ((ctx_mentions ite List.lookup); (rename Fr _ _ _ _ => zqF9); revert zqF9; (goal_has ite List.lookup); (with_reducible refine Mine.fr_let ?_); intro zqm; goal_lacks ite List.lookup; intro zqF) | ((ctx_mentions List.cons HAppend.hAppend List.append); (rename News _ _ _ _ => zqN9); (fail_if_success (fail_if_success (conv at zqN9 => arg 4; arg 2))); (with_reducible refine Mine.news_let zqN9 ?_); intro zql zqN; clear zqN9) | (k_end; wrow_close) | (goal_has subscriptTail; ((fail_if_success (fail_if_success (with_reducible show wpAny _ _ (subscriptTail _ _ (Value.ref _) (Value.int _ _)) _ _ _))); k_dflt (refine' item_tupleT (by exact News.isTup (by k_asm) (by k_mem)) (by decide) (by decide) (by rfl) (by rfl) ?_; k_whole))) | (goal_has call; (fail_if_success (fail_if_success (with_reducible show wpAny _ _ (call (Value.ref _) _ _) _ _ _))); first | (k_dflt (first | (refine' call_cls0 (by k_asm) (by k_asm) (by k_asm) (by k_is) (by k_is) ?_; k_whole; intro zqx zqd zqh zqF zqN zql1 zql2; (try ((have zqU := Mine.lts_up zql1 zql2); (dsimp +zetaDelta only [List.map] at zqU))); (try k_lt zql1); (try k_lt2 zql2); (try k_sweep)) | ((first | (refine' call_cls (by k_asm) (by k_asm) (by k_asm) (by k_is) (by k_is) (by k_is) ?_; k_whole; intro zqx zqd zqh zqF zqN zql1 zql2; (try ((have zqU := Mine.lts_up zql1 zql2); (dsimp +zetaDelta only [List.map] at zqU))); (try k_lt zql1); (try k_lt2 zql2); (try k_sweep)) | (refine' Mine.call_fn (by k_asm) (by k_is) ?_; k_whole) | (refine' call_meth (by k_asm) (by k_mem) ?_; k_whole) | refine wpAny_call ?_); (first | (refine' code_defL (by exact rfl) (by exact rfl) (by first | exact rfl | assumption) (by k_asm) (by k_asm) (by k_asm) (by k_asm) (by k_asm) (by k_is) (by k_is) (by decide) (by ktr_room) (by first | exact BindsTo.of_eq rfl | exact binds_K (by k_in) rfl (by k_is) rfl rfl rfl) (by exact locs rfl) (by exact rfl) (by exact rfl) (by exact rfl) ?_; k_whole; intro zqg zqL zqh zqtk zqFG zqF zqN zqB zqX zqT zqe zqA; (try k_lift zqB); (try ((fail_if_success (fail_if_success k_fold)); (with_reducible refine Mine.wp_fold ?_); intro zqq zqe))) | (refine' code_defCL (by exact rfl) (by exact rfl) (by exact rfl) (by k_asm) (by k_asm) (by k_asm) (by k_asm) (by k_asm) (by k_is) (by k_is) (by ktr_room) (by first | exact BindsTo.of_eq rfl | exact binds_K (by k_in) rfl (by k_is) rfl rfl rfl) (by exact rfl) (by decide +kernel) (by exact rfl) (by exact rfl) (by exact rfl) ?_; k_whole; intro zqg zqL zqh zqtk zqcells zqFG zqF zqN zqY zqB zqX zqT zql1 zqe zqA; (try k_lt zql1); k_cells zqY; (try simp only [List.cons_append, List.nil_append] at zqN); (try dsimp only); (try k_lift zqB); (try ((fail_if_success (fail_if_success k_fold)); (with_reducible refine Mine.wp_fold ?_); intro zqq zqe)))))))) | walk1 | (dsimp only; walk1) | ((with_reducible show wpAny _ _ _ _ _ _); dsimp only) | (leave1; walk_say "STEP leave1"; (first | (with_reducible refine (?_ : wpAny _ _ _ _ _ _)) | try dsimp only))))
  all_goals (refine' ret _ _ _ ?e3 ?e4; (case e3 => k_asm); (case e4 => exact cb_drop (by assumption) (by kcj_all)))
  )) only [↓Mine.wrap_i]
end
theorem q_bool {Q : Value → Shared → Prop} {b : Bool} {S : Shared} (h : Q (.bool true) S) (e : b = true) : Q (.bool b) S := e ▸ h
section
variable {prog : Program} {w : World} {A : Around} {E : Value → Shared → Prop} {s : Shared} {a b : Value} {da db : PyData} {as bs : List Addr} {Q : Value → Shared → Prop}
theorem ne_same (ra : Reads s.heap a da as) (rb : Reads s.heap b db bs) (ha : SeqAt.shaped da = true) (hb : SeqAt.shaped db = true) (hu : A.units + 64 < cLine) (he : PyData.eqv da db = true) (h : Q (.bool false) s) :
    wpAny (model prog w) A (compareOp .NotEq a b) Q E s := ne_dataH ra rb ha hb hu (by rw [he]; exact h)
theorem eq_same (ra : Reads s.heap a da as) (rb : Reads s.heap b db bs) (ha : SeqAt.shaped da = true) (hb : SeqAt.shaped db = true) (hu : A.units + 64 < cLine) (he : PyData.eqv da db = true) (h : Q (.bool true) s) :
    wpAny (model prog w) A (compareOp .Eq a b) Q E s := eq_dataH ra rb ha hb hu (by rw [he]; exact h)
end
local macro_rules | `(tactic| ke_shaped) => `(tactic| (simp only [SeqAt.shaped, PyData.canLay0, PyData.canLayAll0, PyData.depth, PyData.depthAll]; (try rw [(by assumption : PyData.strOk _ = true)]); first | rfl | decide))
section
variable {prog : Program} {w : World} {p : Program} {loose : List Str} {mean : ExcName → Option Value} {mg mb : Str → Option Value} {dp un : Nat} {gd : Option (List Code)} {cn : Str} {cnm : List (Str × NameKind)} {cg cc : Bool} {cm : List (Str × Const)} {a : Addr} {ccd : Value} {cl : List (Str × Addr)} {outer : List Env} {A₀ : Around} {base h₀ : Heap} {L : Addr} {m : Str → Option Value} {s : Shared} {Q E : Value → Shared → Prop}

theorem fright_core {d c b bd g gp ce mk li cd : Addr} {vs wz wc : List Value} {ns zz pad z0 : List Int} {S k : Int} {tS tk : Tok} {n nc nce ncd : Nat} {T1 T2 : Nat → Tok} {nm : Str} {pt bv zv tk1 ck sv gs ge : Int} {ro : Bool} {own : List (Addr × Obj)}
    (B : Below A₀ base outer h₀) (F : Fr h₀ L s.heap m) (X : (Mine.fr.heap_1_1 w.params).In h₀) (N : News h₀ L s.heap ((d, deckO c S tS k tk n) :: (c, listOf vs.toArray nc) :: own)) (TT : Top p loose mean mg mb h₀)
    (hi : IntsAre vs ns) (hlen : ns.length ≤ 24) (hoffd : ∀ p ∈ own, p.1 ≠ d) (hoffc : ∀ p ∈ own, p.1 ≠ c) (hdc : @Ne Nat d c)
    (mb' : (b, instObj 435 bd) ∈ own) (mbd : (bd, bufO w.params T1 nm g mk li pt bv zv tk1 ck sv ro) ∈ own) (mg' : (g, instObj 224 gp) ∈ own) (mgp : (gp, gapO w.params T2 ce gs ge) ∈ own) (mce : (ce, listOf wz.toArray nce) ∈ own) (mcd : (cd, listOf wc.toArray ncd) ∈ own)
    (hz : IntsAre wz zz) (hc : IntsAre wc z0) (ez : zz = z0 ++ pad) (egs : gs = (z0.length : Int)) (ege : ge = (zz.length : Int)) (hzz : zz.length ≤ 100) (hl0 : z0.length ≤ 20) (hcode : ∀ x ∈ z0, codeOk x) (hb1 : 1 ≤ bv) (hb2 : bv ≤ zv) (hb3 : zv ≤ (z0.length : Int) + 1)
    (hnm : PyData.strOk nm = true) (hd : dp + 40 < recursionLimit) (hu : un + 800 < cLine)
    (ret : ∀ h' tk' vs' ns' k' tk2 n' nc', IntsAre vs' ns' → ns'.length ≤ 24 → Fr h₀ L h' m →
      News h₀ L h' ((d, deckO c S tS k' tk2 n') :: (c, listOf (List.toArray vs') nc') :: own) → Q (.bool true) { s with heap := h', toks := tk' }) :
    wpAny (model prog w) (ktrTop dp un gd cn ⟨.function, cnm, cg, cc, cm⟩ L a ccd cl outer) (call (.ref (1056 : Nat)) [.ref d, .ref b, .ref cd]) Q E s := by
  refine Mine.unwrap ?_
  simp (disch := k_dflt (
  have _h : PySem.Challenge.rw_on0075_01 = PySem.Challenge.rw_on0075_01 ∧ Mine.fr.heap_1_1 = Mine.fr.heap_1_1 := by (k_fill; exact ⟨rfl, rfl⟩)
  clear _h
  w_top off
  repeat' ((first | ((fail_if_success (fail_if_success k_unfold)); (first | (with_reducible refine (?_ : wpAny _ _ _ _ _ _)) | (k_unfold; (try dsimp only)))) | ((fail_if_success (fail_if_success k_fold)); (first | (goal_has PySem.exec; (fail_if_success (fail_if_success (with_reducible show wpAny _ _ (exec _ _) _ _ _)))) | (goal_has PySem.Expr.BoolOp; (fail_if_success (fail_if_success (with_reducible show wpAny _ _ (eval (PySem.Expr.BoolOp _ _ _) _) _ _ _)))) | (goal_has PySem.Expr.Call; (fail_if_success (fail_if_success (with_reducible show wpAny _ _ (eval (PySem.Expr.Call _ _ _ _) _) _ _ _)))) | (goal_has PySem.Expr.Compare; (fail_if_success (fail_if_success (with_reducible show wpAny _ _ (eval (PySem.Expr.Compare _ _ _ _) _) _ _ _))))); (with_reducible refine Mine.wp_fold ?_); intro zqq zqe) | (goal_has PySem.Shared.mk; (with_reducible refine Mine.st_let ?_); intro zqs; goal_lacks PySem.Shared.mk) | ((ctx_mentions ite List.lookup); (rename Fr _ _ _ _ => zqF9); revert zqF9; (goal_has ite List.lookup); (with_reducible refine Mine.fr_let ?_); intro zqm; goal_lacks ite List.lookup; intro zqF) | ((ctx_mentions List.cons HAppend.hAppend List.append); (rename News _ _ _ _ => zqN9); (fail_if_success (fail_if_success (conv at zqN9 => arg 4; arg 2))); (with_reducible refine Mine.news_let zqN9 ?_); intro zql zqN; clear zqN9) | (k_end; wrow_close) | (goal_has subscriptTail; ((fail_if_success (fail_if_success (with_reducible show wpAny _ _ (subscriptTail _ _ (Value.ref _) (Value.int _ _)) _ _ _))); k_dflt (refine' item_tupleT (by exact News.isTup (by k_asm) (by k_mem)) (by decide) (by decide) (by rfl) (by rfl) ?_; k_whole))) | (goal_has PySem.Value.builtin; ((fail_if_success (fail_if_success (with_reducible show wpAny _ _ (call (Value.builtin "len") [Value.ref _]) _ _ _))); k_dflt (refine' kst_len (by k_asm) (by k_mem) (by exact IntsAre.length (by assumption)) (by omega) ?_; k_whole))) | (goal_has call; (fail_if_success (fail_if_success (with_reducible show wpAny _ _ (call (Value.ref _) _ _) _ _ _))); first | ((fail_if_success (fail_if_success (with_reducible show wpAny _ _ (call (Value.ref (39 : Nat)) [Value.int _ _]) _ _ _))); k_dflt (refine' Mine.opt_ok (by k_asm) (by k_asm) (by k_asm) (by k_asm) (by k_asm) (by ktr_room) (by ktr_units) ?_); intro zqo' zqod' zqT' zqh' zqtk' zql1 zql2 zqF' zqN'; (try k_lt zql1); (try k_sweep); (try dsimp only); (try ((fail_if_success (fail_if_success k_fold)); (with_reducible refine Mine.wp_fold ?_); intro zqq zqe))) | ((fail_if_success (fail_if_success (with_reducible show wpAny _ _ (call (Value.ref (884 : Nat)) [Value.ref _, Value.int _ _]) _ _ _))); k_dflt (refine' Mine.row_ok (by k_asm) (by k_asm) (by k_asm) (by k_asm) (by k_asm) (by k_mem) (by ktr_room) (by ktr_units) ?_); intro zqr' zqrd' zqgl' zqT' zqh' zqtk' zql1 zql2 zqF' zqN'; (try k_lt zql1); (try k_sweep); (try dsimp only); (try ((fail_if_success (fail_if_success k_fold)); (with_reducible refine Mine.wp_fold ?_); intro zqq zqe))) | ((fail_if_success (fail_if_success (with_reducible show wpAny _ _ (call (Value.ref (120 : Nat)) [Value.ref _, Value.int _ _, Value.ref _, Value.int _ _, Value.ref _]) _ _ _))); k_dflt (refine' Mine.fof_ok (T3 := tokF [_, _, _, _, _, _, _, _, _, _, _, _, _, _]) (T4 := tokF [_, _, _, _, _, _, _]) (by k_asm) (by k_asm) (by k_asm) (by k_asm) (by k_asm) (by k_mem) (by k_mem) (by k_mem) (by k_mem) (by k_mem) (by k_mem) (by k_mem) (by k_mem) (by k_mem) (by k_mem) (by k_mem) (by assumption) (by assumption) (by assumption) (by assumption) (by assumption) (by assumption) (by assumption) (by assumption) (by assumption) (by assumption) (by omega) (by omega) (by omega) (by omega) (by ktr_room) (by ktr_units) ?_); intro zqf' zqfd' zqT5' zqbt' zqnr' zqh' zqtk' zqhbt' zqhnr' zql1 zql2 zqF' zqN'; (try k_lt zql1); (try k_sweep); (try dsimp only); (try ((fail_if_success (fail_if_success k_fold)); (with_reducible refine Mine.wp_fold ?_); intro zqq zqe))) | ((fail_if_success (fail_if_success (with_reducible show wpAny _ _ (call (Value.ref (1044 : Nat)) [Value.ref _, Value.int _ _]) _ _ _))); k_dflt (refine' Mine.lcol_ok (by k_asm) (by k_asm) (by k_asm) (by k_asm) (by k_asm) (by k_mem) (by assumption) (by first | assumption | omega) (by first | assumption | omega) (by ktr_room) (by ktr_units) ?_); intro zqt' zqh' zqtk' zqF' zqN'; (try k_sweep); (try dsimp only); (try ((fail_if_success (fail_if_success k_fold)); (with_reducible refine Mine.wp_fold ?_); intro zqq zqe))) | ((fail_if_success (fail_if_success (with_reducible show wpAny _ _ (call (Value.ref (1049 : Nat)) [Value.ref _, Value.int _ _, Value.int _ _]) _ _ _))); k_dflt (refine' Mine.line_ok (by k_asm) (by k_asm) (by k_asm) (by k_asm) (by k_asm) (by k_mem) (by assumption) (by first | assumption | omega) (by first | assumption | omega) (by first | assumption | omega) (by first | assumption | omega) (by ktr_room) (by ktr_units) ?_); intro zqtp' zqah' zqt' zqws' zqzs' zqn1' zqn2' zqh' zqtk' zqhzs' zqhzi' zql1 zql2 zqF' zqN'; (try k_lt zql1); (try k_sweep); (try dsimp only); (try ((fail_if_success (fail_if_success k_fold)); (with_reducible refine Mine.wp_fold ?_); intro zqq zqe))) | ((fail_if_success (fail_if_success (with_reducible show wpAny _ _ (call (Value.ref (1027 : Nat)) [Value.ref _, Value.int _ _]) _ _ _))); k_dflt (refine' Mine.draw_ok (by k_asm) (by k_asm) (by k_asm) (by k_asm) (by k_asm) (by first | exact rfl | assumption) (by (intro zqo'; k_upd)) (by (intro zqo₁ zqo'; k_upd)) (by l_ints) (by first | assumption | omega) (by first | decide | omega) (by first | decide | omega) (by ktr_room) (by ktr_units) ?_); intro zqr' zqt' zqh' zqtk' zqvs' zqns' zqk' zqtk2' zqn' zqnc' zqhr0' zqhr1' zqhi' zqhl' zqF' zqN'; (try dsimp only at zqN'); (try k_sweep); (try dsimp only); (try ((fail_if_success (fail_if_success k_fold)); (with_reducible refine Mine.wp_fold ?_); intro zqq zqe))) | (k_dflt (first | (refine' call_cls0 (by k_asm) (by k_asm) (by k_asm) (by k_is) (by k_is) ?_; k_whole; intro zqx zqd zqh zqF zqN zql1 zql2; (try ((have zqU := Mine.lts_up zql1 zql2); (dsimp +zetaDelta only [List.map] at zqU))); (try k_lt zql1); (try k_lt2 zql2); (try k_sweep)) | ((first | (refine' call_cls (by k_asm) (by k_asm) (by k_asm) (by k_is) (by k_is) (by k_is) ?_; k_whole; intro zqx zqd zqh zqF zqN zql1 zql2; (try ((have zqU := Mine.lts_up zql1 zql2); (dsimp +zetaDelta only [List.map] at zqU))); (try k_lt zql1); (try k_lt2 zql2); (try k_sweep)) | (refine' Mine.call_fn (by k_asm) (by k_is) ?_; k_whole) | (refine' call_meth (by k_asm) (by k_mem) ?_; k_whole) | refine wpAny_call ?_); (first | (refine' code_defL (by exact rfl) (by exact rfl) (by first | exact rfl | assumption) (by k_asm) (by k_asm) (by k_asm) (by k_asm) (by k_asm) (by k_is) (by k_is) (by decide) (by ktr_room) (by first | exact BindsTo.of_eq rfl | exact binds_K (by k_in) rfl (by k_is) rfl rfl rfl) (by exact locs rfl) (by exact rfl) (by exact rfl) (by exact rfl) ?_; k_whole; intro zqg zqL zqh zqtk zqFG zqF zqN zqB zqX zqT zqe zqA; (try k_lift zqB); (try ((fail_if_success (fail_if_success k_fold)); (with_reducible refine Mine.wp_fold ?_); intro zqq zqe))) | (refine' code_defCL (by exact rfl) (by exact rfl) (by exact rfl) (by k_asm) (by k_asm) (by k_asm) (by k_asm) (by k_asm) (by k_is) (by k_is) (by ktr_room) (by first | exact BindsTo.of_eq rfl | exact binds_K (by k_in) rfl (by k_is) rfl rfl rfl) (by exact rfl) (by decide +kernel) (by exact rfl) (by exact rfl) (by exact rfl) ?_; k_whole; intro zqg zqL zqh zqtk zqcells zqFG zqF zqN zqY zqB zqX zqT zql1 zqe zqA; (try k_lt zql1); k_cells zqY; (try simp only [List.cons_append, List.nil_append] at zqN); (try dsimp only); (try k_lift zqB); (try ((fail_if_success (fail_if_success k_fold)); (with_reducible refine Mine.wp_fold ?_); intro zqq zqe)))))))) | walk1 | (dsimp only; walk1) | ((with_reducible show wpAny _ _ _ _ _ _); dsimp only) | (leave1; walk_say "STEP leave1"; (first | (with_reducible refine (?_ : wpAny _ _ _ _ _ _)) | try dsimp only))))
  all_goals first
    | (refine' q_bool (ret _ _ _ _ _ _ _ _ ?hi ?hl ?hF ?hN) ?he
       (case hN => exact cb_drop (by assumption) (by kcj_all))
       (case hF => k_asm)
       (case hi => assumption)
       (case hl => assumption)
       (case he => (rename _ = true ↔ _ => h9; rw [beq_iff_eq, Bool.eq_iff_iff, h9, decide_eq_true_iff]; omega)))
    | (exfalso
       rename (_ && _) = false => h9
       rename _ = tlF _ => hz9
       rename _ = pickI _ _ _ => hb9
       first | rename _ = (0 : Int) => ha9 | rename _ ≠ (0 : Int) => ha9
       exact absurd h9 (by rw [hb9, hz9]; simp [ha9, pickI]))
  )) only [↓Mine.wrap_i]
end
/-- an editor's dict -/
abbrev edO (P : Params) (T : Nat → Tok) (bt lm mm ud mk am re : Addr) (wn : Value) (msg : Str) : Obj := dictOf [
  en P "buffers" (T 0) (.ref bt), en P "commands" (T 1) .none, en P "global_map" (T 2) .none, en P "local_maps" (T 3) (.ref lm), en P "minor_maps" (T 4) (.ref mm), en P "question_map" (T 5) .none,
  en P "questions" (T 6) .none, en P "asker" (T 7) .none, en P "kills" (T 8) .none, en P "registers" (T 9) .none, en P "abbrevs" (T 10) .none, en P "windows" (T 11) wn,
  en P "files" (T 12) .none, en P "machine" (T 13) .none, en P "rules" (T 14) .none, en P "further" (T 15) .none, en P "matches" (T 16) .none, en P "loop" (T 17) .none,
  en P "goal" (T 18) .none, en P "undoing" (T 19) (.ref ud), en P "marks" (T 20) (.ref mk), en P "amalgam" (T 21) (.ref am), en P "message" (T 22) (.str msg (T 30)), en P "panes" (T 23) .none,
  en P "modes" (T 24) .none, en P "fill_column" (T 25) (.int 70 (T 31)), en P "tab_width" (T 26) (.int 8 (T 32)), en P "rectangle" (T 27) (.ref re), en P "last_expansion" (T 28) .none, en P "replacing" (T 29) .none] 30
section
variable {prog : Program} {w : World} {p : Program} {loose : List Str} {mean : ExcName → Option Value} {mg mb : Str → Option Value} {dp un : Nat} {gd : Option (List Code)} {cn : Str} {cnm : List (Str × NameKind)} {cg cc : Bool} {cm : List (Str × Const)} {a : Addr} {ccd : Value} {cl : List (Str × Addr)} {outer : List Env} {A₀ : Around} {base h₀ : Heap} {L : Addr} {m : Str → Option Value} {s : Shared} {Q E : Value → Shared → Prop}

/-- Editor(b, None, None) -/
theorem editor_ok {bt : Addr} {own : List (Addr × Obj)}
    (B : Below A₀ base outer h₀) (F : Fr h₀ L s.heap m) (X : (Mine.fr.heap_1_1 w.params).In h₀) (N : News h₀ L s.heap own) (TT : Top p loose mean mg mb h₀)
    (hd : dp + 10 < recursionLimit) (hu : un + 300 < cLine)
    (ret : ∀ x ed T lm mm ud mk am re h' tk', (∀ q ∈ own, q.1 < ed) → @LT.lt Nat _ ed x → Fr h₀ L h' m → News h₀ L h' ((x, instObj 810 ed) :: (ed, edO w.params T bt lm mm ud mk am re .none (Str.ofString "")) :: own) → Q (.ref x) { s with heap := h', toks := tk' }) :
    wpAny (model prog w) (ktrTop dp un gd cn ⟨.function, cnm, cg, cc, cm⟩ L a ccd cl outer) (call (.ref (810 : Nat)) [.ref bt, .none, .none]) Q E s := by
  refine Mine.unwrap ?_
  simp (disch := k_dflt (
  have _h : PySem.Challenge.rw_on0075_01 = PySem.Challenge.rw_on0075_01 ∧ Mine.fr.heap_1_1 = Mine.fr.heap_1_1 := by (k_fill; exact ⟨rfl, rfl⟩)
  clear _h
  w_top off
  repeat' ((fail_if_success (with_reducible show wpAny _ _ (execs (PySem.Stmt.Assign _ _ _ :: _) _) _ _ _)); (first | ((fail_if_success (fail_if_success k_unfold)); (first | (with_reducible refine (?_ : wpAny _ _ _ _ _ _)) | (k_unfold; (try dsimp only)))) | ((fail_if_success (fail_if_success k_fold)); (first | (goal_has PySem.exec; (fail_if_success (fail_if_success (with_reducible show wpAny _ _ (exec _ _) _ _ _)))) | (goal_has PySem.Expr.BoolOp; (fail_if_success (fail_if_success (with_reducible show wpAny _ _ (eval (PySem.Expr.BoolOp _ _ _) _) _ _ _)))) | (goal_has PySem.Expr.Call; (fail_if_success (fail_if_success (with_reducible show wpAny _ _ (eval (PySem.Expr.Call _ _ _ _) _) _ _ _)))) | (goal_has PySem.Expr.Compare; (fail_if_success (fail_if_success (with_reducible show wpAny _ _ (eval (PySem.Expr.Compare _ _ _ _) _) _ _ _))))); (with_reducible refine Mine.wp_fold ?_); intro zqq zqe) | (goal_has PySem.Shared.mk; (with_reducible refine Mine.st_let ?_); intro zqs; goal_lacks PySem.Shared.mk) | ((ctx_mentions ite List.lookup); (rename Fr _ _ _ _ => zqF9); revert zqF9; (goal_has ite List.lookup); (with_reducible refine Mine.fr_let ?_); intro zqm; goal_lacks ite List.lookup; intro zqF) | ((ctx_mentions List.cons HAppend.hAppend List.append); (rename News _ _ _ _ => zqN9); (fail_if_success (fail_if_success (conv at zqN9 => arg 4; arg 2))); (with_reducible refine Mine.news_let zqN9 ?_); intro zql zqN; clear zqN9) | (k_end; wrow_close) | (goal_has call; (fail_if_success (fail_if_success (with_reducible show wpAny _ _ (call (Value.ref _) _ _) _ _ _))); first | (k_dflt (first | (refine' call_cls0 (by k_asm) (by k_asm) (by k_asm) (by k_is) (by k_is) ?_; k_whole; intro zqx zqd zqh zqF zqN zql1 zql2; (try ((have zqU := Mine.lts_up zql1 zql2); (dsimp +zetaDelta only [List.map] at zqU))); (try k_lt zql1); (try k_lt2 zql2); (try k_sweep)) | ((first | (refine' call_cls (by k_asm) (by k_asm) (by k_asm) (by k_is) (by k_is) (by k_is) ?_; k_whole; intro zqx zqd zqh zqF zqN zql1 zql2; (try ((have zqU := Mine.lts_up zql1 zql2); (dsimp +zetaDelta only [List.map] at zqU))); (try k_lt zql1); (try k_lt2 zql2); (try k_sweep)) | (refine' Mine.call_fn (by k_asm) (by k_is) ?_; k_whole) | (refine' call_meth (by k_asm) (by k_mem) ?_; k_whole) | refine wpAny_call ?_); (first | (refine' code_defL (by exact rfl) (by exact rfl) (by first | exact rfl | assumption) (by k_asm) (by k_asm) (by k_asm) (by k_asm) (by k_asm) (by k_is) (by k_is) (by decide) (by ktr_room) (by first | exact BindsTo.of_eq rfl | exact binds_K (by k_in) rfl (by k_is) rfl rfl rfl) (by exact locs rfl) (by exact rfl) (by exact rfl) (by exact rfl) ?_; k_whole; intro zqg zqL zqh zqtk zqFG zqF zqN zqB zqX zqT zqe zqA; (try k_lift zqB); (try ((fail_if_success (fail_if_success k_fold)); (with_reducible refine Mine.wp_fold ?_); intro zqq zqe))) | (refine' code_defCL (by exact rfl) (by exact rfl) (by exact rfl) (by k_asm) (by k_asm) (by k_asm) (by k_asm) (by k_asm) (by k_is) (by k_is) (by ktr_room) (by first | exact BindsTo.of_eq rfl | exact binds_K (by k_in) rfl (by k_is) rfl rfl rfl) (by exact rfl) (by decide +kernel) (by exact rfl) (by exact rfl) (by exact rfl) ?_; k_whole; intro zqg zqL zqh zqtk zqcells zqFG zqF zqN zqY zqB zqX zqT zql1 zqe zqA; (try k_lt zql1); k_cells zqY; (try simp only [List.cons_append, List.nil_append] at zqN); (try dsimp only); (try k_lift zqB); (try ((fail_if_success (fail_if_success k_fold)); (with_reducible refine Mine.wp_fold ?_); intro zqq zqe)))))))) | walk1 | (dsimp only; walk1) | ((with_reducible show wpAny _ _ _ _ _ _); dsimp only) | (leave1; walk_say "STEP leave1"; (first | (with_reducible refine (?_ : wpAny _ _ _ _ _ _)) | try dsimp only))))
  (with_reducible refine Mine.st_let ?_); intro zqs; (refine' Mine.stores_run (news := fun o => (_, _) :: (_, o) :: _) (by exact (Mine.Stores.cons Mine.IsSrc.name (Mine.Stores.cons Mine.IsSrc.name (Mine.Stores.cons Mine.IsSrc.name (Mine.Stores.cons Mine.IsSrc.dict0 (Mine.Stores.cons Mine.IsSrc.list0 (Mine.Stores.cons Mine.IsSrc.none (Mine.Stores.cons Mine.IsSrc.none (Mine.Stores.cons Mine.IsSrc.none (Mine.Stores.cons Mine.IsSrc.none (Mine.Stores.cons Mine.IsSrc.none (Mine.Stores.cons Mine.IsSrc.none (Mine.Stores.cons Mine.IsSrc.none (Mine.Stores.cons Mine.IsSrc.none (Mine.Stores.cons Mine.IsSrc.none (Mine.Stores.cons Mine.IsSrc.none (Mine.Stores.cons Mine.IsSrc.none (Mine.Stores.cons Mine.IsSrc.none (Mine.Stores.cons Mine.IsSrc.none (Mine.Stores.cons Mine.IsSrc.none (Mine.Stores.cons Mine.IsSrc.dict0 (Mine.Stores.cons Mine.IsSrc.dict0 Mine.Stores.nil)))))))))))))))))))))) (by k_asm) (by k_asm) (by k_asm) (by exact Top.nolimit (by k_asm)) (by exact rfl) (by exact rfl) (by exact rfl) (by exact rfl) (by exact fun _ => List.Mem.head _) (by (intro o o'; k_upd)) (by k_is) (by k_is) (by k_is) (by repeat' (first | exact True.intro | refine And.intro ?_ ?_ | k_is | exact rfl)) (by kernel_rfl) (by decide +kernel) (by exact Nat.le_of_ble_eq_true rfl) ?_; intro T' Ad' h' tk' F' N'; (try k_sweep))
  repeat' ((fail_if_success (with_reducible show wpAny _ _ (execs (PySem.Stmt.Assign [PySem.Expr.Attribute _ (Str.ofString "sort") _] _ _ :: _) _) _ _ _)); (first | ((fail_if_success (fail_if_success k_unfold)); (first | (with_reducible refine (?_ : wpAny _ _ _ _ _ _)) | (k_unfold; (try dsimp only)))) | ((fail_if_success (fail_if_success k_fold)); (first | (goal_has PySem.exec; (fail_if_success (fail_if_success (with_reducible show wpAny _ _ (exec _ _) _ _ _)))) | (goal_has PySem.Expr.BoolOp; (fail_if_success (fail_if_success (with_reducible show wpAny _ _ (eval (PySem.Expr.BoolOp _ _ _) _) _ _ _)))) | (goal_has PySem.Expr.Call; (fail_if_success (fail_if_success (with_reducible show wpAny _ _ (eval (PySem.Expr.Call _ _ _ _) _) _ _ _)))) | (goal_has PySem.Expr.Compare; (fail_if_success (fail_if_success (with_reducible show wpAny _ _ (eval (PySem.Expr.Compare _ _ _ _) _) _ _ _))))); (with_reducible refine Mine.wp_fold ?_); intro zqq zqe) | (goal_has PySem.Shared.mk; (with_reducible refine Mine.st_let ?_); intro zqs; goal_lacks PySem.Shared.mk) | ((ctx_mentions ite List.lookup); (rename Fr _ _ _ _ => zqF9); revert zqF9; (goal_has ite List.lookup); (with_reducible refine Mine.fr_let ?_); intro zqm; goal_lacks ite List.lookup; intro zqF) | ((ctx_mentions List.cons HAppend.hAppend List.append); (rename News _ _ _ _ => zqN9); (fail_if_success (fail_if_success (conv at zqN9 => arg 4; arg 2))); (with_reducible refine Mine.news_let zqN9 ?_); intro zql zqN; clear zqN9) | (k_end; wrow_close) | (goal_has call; (fail_if_success (fail_if_success (with_reducible show wpAny _ _ (call (Value.ref _) _ _) _ _ _))); first | (k_dflt (first | (refine' call_cls0 (by k_asm) (by k_asm) (by k_asm) (by k_is) (by k_is) ?_; k_whole; intro zqx zqd zqh zqF zqN zql1 zql2; (try ((have zqU := Mine.lts_up zql1 zql2); (dsimp +zetaDelta only [List.map] at zqU))); (try k_lt zql1); (try k_lt2 zql2); (try k_sweep)) | ((first | (refine' call_cls (by k_asm) (by k_asm) (by k_asm) (by k_is) (by k_is) (by k_is) ?_; k_whole; intro zqx zqd zqh zqF zqN zql1 zql2; (try ((have zqU := Mine.lts_up zql1 zql2); (dsimp +zetaDelta only [List.map] at zqU))); (try k_lt zql1); (try k_lt2 zql2); (try k_sweep)) | (refine' Mine.call_fn (by k_asm) (by k_is) ?_; k_whole) | (refine' call_meth (by k_asm) (by k_mem) ?_; k_whole) | refine wpAny_call ?_); (first | (refine' code_defL (by exact rfl) (by exact rfl) (by first | exact rfl | assumption) (by k_asm) (by k_asm) (by k_asm) (by k_asm) (by k_asm) (by k_is) (by k_is) (by decide) (by ktr_room) (by first | exact BindsTo.of_eq rfl | exact binds_K (by k_in) rfl (by k_is) rfl rfl rfl) (by exact locs rfl) (by exact rfl) (by exact rfl) (by exact rfl) ?_; k_whole; intro zqg zqL zqh zqtk zqFG zqF zqN zqB zqX zqT zqe zqA; (try k_lift zqB); (try ((fail_if_success (fail_if_success k_fold)); (with_reducible refine Mine.wp_fold ?_); intro zqq zqe))) | (refine' code_defCL (by exact rfl) (by exact rfl) (by exact rfl) (by k_asm) (by k_asm) (by k_asm) (by k_asm) (by k_asm) (by k_is) (by k_is) (by ktr_room) (by first | exact BindsTo.of_eq rfl | exact binds_K (by k_in) rfl (by k_is) rfl rfl rfl) (by exact rfl) (by decide +kernel) (by exact rfl) (by exact rfl) (by exact rfl) ?_; k_whole; intro zqg zqL zqh zqtk zqcells zqFG zqF zqN zqY zqB zqX zqT zql1 zqe zqA; (try k_lt zql1); k_cells zqY; (try simp only [List.cons_append, List.nil_append] at zqN); (try dsimp only); (try k_lift zqB); (try ((fail_if_success (fail_if_success k_fold)); (with_reducible refine Mine.wp_fold ?_); intro zqq zqe)))))))) | walk1 | (dsimp only; walk1) | ((with_reducible show wpAny _ _ _ _ _ _); dsimp only) | (leave1; walk_say "STEP leave1"; (first | (with_reducible refine (?_ : wpAny _ _ _ _ _ _)) | try dsimp only))))
  (with_reducible refine Mine.st_let ?_); intro zqs; (refine' Mine.stores_run (news := fun o => (_, _) :: (_, o) :: _) (by exact (Mine.Stores.cons Mine.IsSrc.str (Mine.Stores.cons Mine.IsSrc.int Mine.Stores.nil))) (by k_asm) (by k_asm) (by k_asm) (by exact Top.nolimit (by k_asm)) (by exact rfl) (by exact rfl) (by exact rfl) (by exact rfl) (by exact fun _ => List.Mem.head _) (by (intro o o'; k_upd)) (by k_is) (by k_is) (by k_is) (by repeat' (first | exact True.intro | refine And.intro ?_ ?_ | k_is | exact rfl)) (by kernel_rfl) (by decide +kernel) (by exact Nat.le_of_ble_eq_true rfl) ?_; intro T' Ad' h' tk' F' N'; (try k_sweep))
  repeat' ((fail_if_success (with_reducible show wpAny _ _ (execs (PySem.Stmt.Assign [PySem.Expr.Attribute _ (Str.ofString "message") _] _ _ :: _) _) _ _ _)); (first | ((fail_if_success (fail_if_success k_unfold)); (first | (with_reducible refine (?_ : wpAny _ _ _ _ _ _)) | (k_unfold; (try dsimp only)))) | ((fail_if_success (fail_if_success k_fold)); (first | (goal_has PySem.exec; (fail_if_success (fail_if_success (with_reducible show wpAny _ _ (exec _ _) _ _ _)))) | (goal_has PySem.Expr.BoolOp; (fail_if_success (fail_if_success (with_reducible show wpAny _ _ (eval (PySem.Expr.BoolOp _ _ _) _) _ _ _)))) | (goal_has PySem.Expr.Call; (fail_if_success (fail_if_success (with_reducible show wpAny _ _ (eval (PySem.Expr.Call _ _ _ _) _) _ _ _)))) | (goal_has PySem.Expr.Compare; (fail_if_success (fail_if_success (with_reducible show wpAny _ _ (eval (PySem.Expr.Compare _ _ _ _) _) _ _ _))))); (with_reducible refine Mine.wp_fold ?_); intro zqq zqe) | (goal_has PySem.Shared.mk; (with_reducible refine Mine.st_let ?_); intro zqs; goal_lacks PySem.Shared.mk) | ((ctx_mentions ite List.lookup); (rename Fr _ _ _ _ => zqF9); revert zqF9; (goal_has ite List.lookup); (with_reducible refine Mine.fr_let ?_); intro zqm; goal_lacks ite List.lookup; intro zqF) | ((ctx_mentions List.cons HAppend.hAppend List.append); (rename News _ _ _ _ => zqN9); (fail_if_success (fail_if_success (conv at zqN9 => arg 4; arg 2))); (with_reducible refine Mine.news_let zqN9 ?_); intro zql zqN; clear zqN9) | (k_end; wrow_close) | (goal_has call; (fail_if_success (fail_if_success (with_reducible show wpAny _ _ (call (Value.ref _) _ _) _ _ _))); first | (k_dflt (first | (refine' call_cls0 (by k_asm) (by k_asm) (by k_asm) (by k_is) (by k_is) ?_; k_whole; intro zqx zqd zqh zqF zqN zql1 zql2; (try ((have zqU := Mine.lts_up zql1 zql2); (dsimp +zetaDelta only [List.map] at zqU))); (try k_lt zql1); (try k_lt2 zql2); (try k_sweep)) | ((first | (refine' call_cls (by k_asm) (by k_asm) (by k_asm) (by k_is) (by k_is) (by k_is) ?_; k_whole; intro zqx zqd zqh zqF zqN zql1 zql2; (try ((have zqU := Mine.lts_up zql1 zql2); (dsimp +zetaDelta only [List.map] at zqU))); (try k_lt zql1); (try k_lt2 zql2); (try k_sweep)) | (refine' Mine.call_fn (by k_asm) (by k_is) ?_; k_whole) | (refine' call_meth (by k_asm) (by k_mem) ?_; k_whole) | refine wpAny_call ?_); (first | (refine' code_defL (by exact rfl) (by exact rfl) (by first | exact rfl | assumption) (by k_asm) (by k_asm) (by k_asm) (by k_asm) (by k_asm) (by k_is) (by k_is) (by decide) (by ktr_room) (by first | exact BindsTo.of_eq rfl | exact binds_K (by k_in) rfl (by k_is) rfl rfl rfl) (by exact locs rfl) (by exact rfl) (by exact rfl) (by exact rfl) ?_; k_whole; intro zqg zqL zqh zqtk zqFG zqF zqN zqB zqX zqT zqe zqA; (try k_lift zqB); (try ((fail_if_success (fail_if_success k_fold)); (with_reducible refine Mine.wp_fold ?_); intro zqq zqe))) | (refine' code_defCL (by exact rfl) (by exact rfl) (by exact rfl) (by k_asm) (by k_asm) (by k_asm) (by k_asm) (by k_asm) (by k_is) (by k_is) (by ktr_room) (by first | exact BindsTo.of_eq rfl | exact binds_K (by k_in) rfl (by k_is) rfl rfl rfl) (by exact rfl) (by decide +kernel) (by exact rfl) (by exact rfl) (by exact rfl) ?_; k_whole; intro zqg zqL zqh zqtk zqcells zqFG zqF zqN zqY zqB zqX zqT zql1 zqe zqA; (try k_lt zql1); k_cells zqY; (try simp only [List.cons_append, List.nil_append] at zqN); (try dsimp only); (try k_lift zqB); (try ((fail_if_success (fail_if_success k_fold)); (with_reducible refine Mine.wp_fold ?_); intro zqq zqe)))))))) | walk1 | (dsimp only; walk1) | ((with_reducible show wpAny _ _ _ _ _ _); dsimp only) | (leave1; walk_say "STEP leave1"; (first | (with_reducible refine (?_ : wpAny _ _ _ _ _ _)) | try dsimp only))))
  (with_reducible refine Mine.st_let ?_); intro zqs; (refine' Mine.stores_run (news := fun o => _ :: _ :: (_, _) :: (_, o) :: _) (by exact (Mine.Stores.cons Mine.IsSrc.str (Mine.Stores.cons Mine.IsSrc.none (Mine.Stores.cons Mine.IsSrc.none (Mine.Stores.cons Mine.IsSrc.int (Mine.Stores.cons Mine.IsSrc.int (Mine.Stores.cons Mine.IsSrc.list0 (Mine.Stores.cons Mine.IsSrc.none (Mine.Stores.cons Mine.IsSrc.none Mine.Stores.nil))))))))) (by k_asm) (by k_asm) (by k_asm) (by exact Top.nolimit (by k_asm)) (by exact rfl) (by exact rfl) (by exact rfl) (by exact rfl) (by exact fun _ => List.Mem.tail _ (List.Mem.tail _ (List.Mem.head _))) (by (intro o o'; k_upd)) (by k_is) (by k_is) (by k_is) (by repeat' (first | exact True.intro | refine And.intro ?_ ?_ | k_is | exact rfl)) (by kernel_rfl) (by decide +kernel) (by exact Nat.le_of_ble_eq_true rfl) ?_; intro T' Ad' h' tk' F' N'; (try k_sweep))
  repeat' ((first | ((fail_if_success (fail_if_success k_unfold)); (first | (with_reducible refine (?_ : wpAny _ _ _ _ _ _)) | (k_unfold; (try dsimp only)))) | ((fail_if_success (fail_if_success k_fold)); (first | (goal_has PySem.exec; (fail_if_success (fail_if_success (with_reducible show wpAny _ _ (exec _ _) _ _ _)))) | (goal_has PySem.Expr.BoolOp; (fail_if_success (fail_if_success (with_reducible show wpAny _ _ (eval (PySem.Expr.BoolOp _ _ _) _) _ _ _)))) | (goal_has PySem.Expr.Call; (fail_if_success (fail_if_success (with_reducible show wpAny _ _ (eval (PySem.Expr.Call _ _ _ _) _) _ _ _)))) | (goal_has PySem.Expr.Compare; (fail_if_success (fail_if_success (with_reducible show wpAny _ _ (eval (PySem.Expr.Compare _ _ _ _) _) _ _ _))))); (with_reducible refine Mine.wp_fold ?_); intro zqq zqe) | (goal_has PySem.Shared.mk; (with_reducible refine Mine.st_let ?_); intro zqs; goal_lacks PySem.Shared.mk) | ((ctx_mentions ite List.lookup); (rename Fr _ _ _ _ => zqF9); revert zqF9; (goal_has ite List.lookup); (with_reducible refine Mine.fr_let ?_); intro zqm; goal_lacks ite List.lookup; intro zqF) | ((ctx_mentions List.cons HAppend.hAppend List.append); (rename News _ _ _ _ => zqN9); (fail_if_success (fail_if_success (conv at zqN9 => arg 4; arg 2))); (with_reducible refine Mine.news_let zqN9 ?_); intro zql zqN; clear zqN9) | (k_end; wrow_close) | (goal_has call; (fail_if_success (fail_if_success (with_reducible show wpAny _ _ (call (Value.ref _) _ _) _ _ _))); first | (k_dflt (first | (refine' call_cls0 (by k_asm) (by k_asm) (by k_asm) (by k_is) (by k_is) ?_; k_whole; intro zqx zqd zqh zqF zqN zql1 zql2; (try ((have zqU := Mine.lts_up zql1 zql2); (dsimp +zetaDelta only [List.map] at zqU))); (try k_lt zql1); (try k_lt2 zql2); (try k_sweep)) | ((first | (refine' call_cls (by k_asm) (by k_asm) (by k_asm) (by k_is) (by k_is) (by k_is) ?_; k_whole; intro zqx zqd zqh zqF zqN zql1 zql2; (try ((have zqU := Mine.lts_up zql1 zql2); (dsimp +zetaDelta only [List.map] at zqU))); (try k_lt zql1); (try k_lt2 zql2); (try k_sweep)) | (refine' Mine.call_fn (by k_asm) (by k_is) ?_; k_whole) | (refine' call_meth (by k_asm) (by k_mem) ?_; k_whole) | refine wpAny_call ?_); (first | (refine' code_defL (by exact rfl) (by exact rfl) (by first | exact rfl | assumption) (by k_asm) (by k_asm) (by k_asm) (by k_asm) (by k_asm) (by k_is) (by k_is) (by decide) (by ktr_room) (by first | exact BindsTo.of_eq rfl | exact binds_K (by k_in) rfl (by k_is) rfl rfl rfl) (by exact locs rfl) (by exact rfl) (by exact rfl) (by exact rfl) ?_; k_whole; intro zqg zqL zqh zqtk zqFG zqF zqN zqB zqX zqT zqe zqA; (try k_lift zqB); (try ((fail_if_success (fail_if_success k_fold)); (with_reducible refine Mine.wp_fold ?_); intro zqq zqe))) | (refine' code_defCL (by exact rfl) (by exact rfl) (by exact rfl) (by k_asm) (by k_asm) (by k_asm) (by k_asm) (by k_asm) (by k_is) (by k_is) (by ktr_room) (by first | exact BindsTo.of_eq rfl | exact binds_K (by k_in) rfl (by k_is) rfl rfl rfl) (by exact rfl) (by decide +kernel) (by exact rfl) (by exact rfl) (by exact rfl) ?_; k_whole; intro zqg zqL zqh zqtk zqcells zqFG zqF zqN zqY zqB zqX zqT zql1 zqe zqA; (try k_lt zql1); k_cells zqY; (try simp only [List.cons_append, List.nil_append] at zqN); (try dsimp only); (try k_lift zqB); (try ((fail_if_success (fail_if_success k_fold)); (with_reducible refine Mine.wp_fold ?_); intro zqq zqe)))))))) | walk1 | (dsimp only; walk1) | ((with_reducible show wpAny _ _ _ _ _ _); dsimp only) | (leave1; walk_say "STEP leave1"; (first | (with_reducible refine (?_ : wpAny _ _ _ _ _ _)) | try dsimp only))))
  all_goals (refine' ret _ _ (tokF [_, _, _, _, _, _, _, _, _, _, _, _, _, _, _, _, _, _, _, _, _, _, _, _, _, _, _, _, _, _, _, _, _]) _ _ _ _ _ _ _ _ ?e1 ?e2 ?e3 ?e4; (case e3 => k_asm); (case e4 => exact cb_drop (by assumption) (by kcj_all)); (case e1 => first | assumption | exact fun q hq => kst_ltOf (by assumption) q hq); (case e2 => omega))
  )) only [↓Mine.wrap_i]
end
/-- a fresh window's dict -/
abbrev win0O (P : Params) (T : Nat → Tok) (ch ea la : Addr) : Obj := dictOf [
  en P "number" (T 0) (.int 1 (T 16)), en P "sort" (T 1) (.int 0 (T 17)), en P "parent" (T 2) (.int 0 (T 18)), en P "children" (T 3) (.ref ch), en P "left" (T 4) (.int 0 (T 19)), en P "top" (T 5) (.int 0 (T 20)),
  en P "width" (T 6) (.int 0 (T 21)), en P "height" (T 7) (.int 0 (T 22)), en P "buffer" (T 8) (.int 0 (T 23)), en P "start" (T 9) (.int 1 (T 24)), en P "point" (T 10) (.int 1 (T 25)), en P "hscroll" (T 11) (.int 0 (T 26)),
  en P "is_dedicated" (T 12) (.bool false), en P "use_time" (T 13) (.int 0 (T 27)), en P "earlier" (T 14) (.ref ea), en P "later" (T 15) (.ref la)] 16
section
variable {prog : Program} {w : World} {p : Program} {loose : List Str} {mean : ExcName → Option Value} {mg mb : Str → Option Value} {dp un : Nat} {gd : Option (List Code)} {cn : Str} {cnm : List (Str × NameKind)} {cg cc : Bool} {cm : List (Str × Const)} {a : Addr} {ccd : Value} {cl : List (Str × Addr)} {outer : List Env} {A₀ : Around} {base h₀ : Heap} {L : Addr} {m : Str → Option Value} {s : Shared} {Q E : Value → Shared → Prop}

/-- Window(1, 0, 0) -/
theorem win_ok {t1 t2 t3 : Tok} {own : List (Addr × Obj)}
    (B : Below A₀ base outer h₀) (F : Fr h₀ L s.heap m) (X : (Mine.fr.heap_1_1 w.params).In h₀) (N : News h₀ L s.heap own) (TT : Top p loose mean mg mb h₀)
    (hd : dp + 2 < recursionLimit) (hu : un + 100 < cLine)
    (ret : ∀ x wd T ch ea la h' tk', (∀ q ∈ own, q.1 < wd) → @LT.lt Nat _ wd x → Fr h₀ L h' m → News h₀ L h' ((x, instObj 940 wd) :: (wd, win0O w.params T ch ea la) :: own) → Q (.ref x) { s with heap := h', toks := tk' }) :
    wpAny (model prog w) (ktrTop dp un gd cn ⟨.function, cnm, cg, cc, cm⟩ L a ccd cl outer) (call (.ref (940 : Nat)) [.int 1 t1, .int 0 t2, .int 0 t3]) Q E s := by
  refine Mine.unwrap ?_
  simp (disch := k_dflt (
  have _h : PySem.Challenge.rw_on0075_01 = PySem.Challenge.rw_on0075_01 ∧ Mine.fr.heap_1_1 = Mine.fr.heap_1_1 := by (k_fill; exact ⟨rfl, rfl⟩)
  clear _h
  w_top off
  repeat' ((fail_if_success (with_reducible show wpAny _ _ (execs (PySem.Stmt.Assign _ _ _ :: _) _) _ _ _)); (first | ((fail_if_success (fail_if_success k_unfold)); (first | (with_reducible refine (?_ : wpAny _ _ _ _ _ _)) | (k_unfold; (try dsimp only)))) | ((fail_if_success (fail_if_success k_fold)); (first | (goal_has PySem.exec; (fail_if_success (fail_if_success (with_reducible show wpAny _ _ (exec _ _) _ _ _)))) | (goal_has PySem.Expr.BoolOp; (fail_if_success (fail_if_success (with_reducible show wpAny _ _ (eval (PySem.Expr.BoolOp _ _ _) _) _ _ _)))) | (goal_has PySem.Expr.Call; (fail_if_success (fail_if_success (with_reducible show wpAny _ _ (eval (PySem.Expr.Call _ _ _ _) _) _ _ _)))) | (goal_has PySem.Expr.Compare; (fail_if_success (fail_if_success (with_reducible show wpAny _ _ (eval (PySem.Expr.Compare _ _ _ _) _) _ _ _))))); (with_reducible refine Mine.wp_fold ?_); intro zqq zqe) | (goal_has PySem.Shared.mk; (with_reducible refine Mine.st_let ?_); intro zqs; goal_lacks PySem.Shared.mk) | ((ctx_mentions ite List.lookup); (rename Fr _ _ _ _ => zqF9); revert zqF9; (goal_has ite List.lookup); (with_reducible refine Mine.fr_let ?_); intro zqm; goal_lacks ite List.lookup; intro zqF) | ((ctx_mentions List.cons HAppend.hAppend List.append); (rename News _ _ _ _ => zqN9); (fail_if_success (fail_if_success (conv at zqN9 => arg 4; arg 2))); (with_reducible refine Mine.news_let zqN9 ?_); intro zql zqN; clear zqN9) | (k_end; wrow_close) | (goal_has call; (fail_if_success (fail_if_success (with_reducible show wpAny _ _ (call (Value.ref _) _ _) _ _ _))); first | (k_dflt (first | (refine' call_cls0 (by k_asm) (by k_asm) (by k_asm) (by k_is) (by k_is) ?_; k_whole; intro zqx zqd zqh zqF zqN zql1 zql2; (try ((have zqU := Mine.lts_up zql1 zql2); (dsimp +zetaDelta only [List.map] at zqU))); (try k_lt zql1); (try k_lt2 zql2); (try k_sweep)) | ((first | (refine' call_cls (by k_asm) (by k_asm) (by k_asm) (by k_is) (by k_is) (by k_is) ?_; k_whole; intro zqx zqd zqh zqF zqN zql1 zql2; (try ((have zqU := Mine.lts_up zql1 zql2); (dsimp +zetaDelta only [List.map] at zqU))); (try k_lt zql1); (try k_lt2 zql2); (try k_sweep)) | (refine' Mine.call_fn (by k_asm) (by k_is) ?_; k_whole) | (refine' call_meth (by k_asm) (by k_mem) ?_; k_whole) | refine wpAny_call ?_); (first | (refine' code_defL (by exact rfl) (by exact rfl) (by first | exact rfl | assumption) (by k_asm) (by k_asm) (by k_asm) (by k_asm) (by k_asm) (by k_is) (by k_is) (by decide) (by ktr_room) (by first | exact BindsTo.of_eq rfl | exact binds_K (by k_in) rfl (by k_is) rfl rfl rfl) (by exact locs rfl) (by exact rfl) (by exact rfl) (by exact rfl) ?_; k_whole; intro zqg zqL zqh zqtk zqFG zqF zqN zqB zqX zqT zqe zqA; (try k_lift zqB); (try ((fail_if_success (fail_if_success k_fold)); (with_reducible refine Mine.wp_fold ?_); intro zqq zqe))) | (refine' code_defCL (by exact rfl) (by exact rfl) (by exact rfl) (by k_asm) (by k_asm) (by k_asm) (by k_asm) (by k_asm) (by k_is) (by k_is) (by ktr_room) (by first | exact BindsTo.of_eq rfl | exact binds_K (by k_in) rfl (by k_is) rfl rfl rfl) (by exact rfl) (by decide +kernel) (by exact rfl) (by exact rfl) (by exact rfl) ?_; k_whole; intro zqg zqL zqh zqtk zqcells zqFG zqF zqN zqY zqB zqX zqT zql1 zqe zqA; (try k_lt zql1); k_cells zqY; (try simp only [List.cons_append, List.nil_append] at zqN); (try dsimp only); (try k_lift zqB); (try ((fail_if_success (fail_if_success k_fold)); (with_reducible refine Mine.wp_fold ?_); intro zqq zqe)))))))) | walk1 | (dsimp only; walk1) | ((with_reducible show wpAny _ _ _ _ _ _); dsimp only) | (leave1; walk_say "STEP leave1"; (first | (with_reducible refine (?_ : wpAny _ _ _ _ _ _)) | try dsimp only))))
  (with_reducible refine Mine.st_let ?_); intro zqs; (refine' Mine.stores_run (news := fun o => (_, _) :: (_, o) :: _) (by exact (Mine.Stores.cons Mine.IsSrc.name (Mine.Stores.cons Mine.IsSrc.name (Mine.Stores.cons Mine.IsSrc.name (Mine.Stores.cons Mine.IsSrc.list0 (Mine.Stores.cons Mine.IsSrc.int (Mine.Stores.cons Mine.IsSrc.int (Mine.Stores.cons Mine.IsSrc.int (Mine.Stores.cons Mine.IsSrc.int (Mine.Stores.cons Mine.IsSrc.int (Mine.Stores.cons Mine.IsSrc.int (Mine.Stores.cons Mine.IsSrc.int (Mine.Stores.cons Mine.IsSrc.int (Mine.Stores.cons Mine.IsSrc.bool (Mine.Stores.cons Mine.IsSrc.int (Mine.Stores.cons Mine.IsSrc.list0 (Mine.Stores.cons Mine.IsSrc.list0 Mine.Stores.nil))))))))))))))))) (by k_asm) (by k_asm) (by k_asm) (by exact Top.nolimit (by k_asm)) (by exact rfl) (by exact rfl) (by exact rfl) (by exact rfl) (by exact fun _ => List.Mem.head _) (by (intro o o'; k_upd)) (by k_is) (by k_is) (by k_is) (by repeat' (first | exact True.intro | refine And.intro ?_ ?_ | k_is | exact rfl)) (by kernel_rfl) (by decide +kernel) (by exact Nat.le_of_ble_eq_true rfl) ?_; intro T' Ad' h' tk' F' N'; (try k_sweep))
  repeat' ((first | ((fail_if_success (fail_if_success k_unfold)); (first | (with_reducible refine (?_ : wpAny _ _ _ _ _ _)) | (k_unfold; (try dsimp only)))) | ((fail_if_success (fail_if_success k_fold)); (first | (goal_has PySem.exec; (fail_if_success (fail_if_success (with_reducible show wpAny _ _ (exec _ _) _ _ _)))) | (goal_has PySem.Expr.BoolOp; (fail_if_success (fail_if_success (with_reducible show wpAny _ _ (eval (PySem.Expr.BoolOp _ _ _) _) _ _ _)))) | (goal_has PySem.Expr.Call; (fail_if_success (fail_if_success (with_reducible show wpAny _ _ (eval (PySem.Expr.Call _ _ _ _) _) _ _ _)))) | (goal_has PySem.Expr.Compare; (fail_if_success (fail_if_success (with_reducible show wpAny _ _ (eval (PySem.Expr.Compare _ _ _ _) _) _ _ _))))); (with_reducible refine Mine.wp_fold ?_); intro zqq zqe) | (goal_has PySem.Shared.mk; (with_reducible refine Mine.st_let ?_); intro zqs; goal_lacks PySem.Shared.mk) | ((ctx_mentions ite List.lookup); (rename Fr _ _ _ _ => zqF9); revert zqF9; (goal_has ite List.lookup); (with_reducible refine Mine.fr_let ?_); intro zqm; goal_lacks ite List.lookup; intro zqF) | ((ctx_mentions List.cons HAppend.hAppend List.append); (rename News _ _ _ _ => zqN9); (fail_if_success (fail_if_success (conv at zqN9 => arg 4; arg 2))); (with_reducible refine Mine.news_let zqN9 ?_); intro zql zqN; clear zqN9) | (k_end; wrow_close) | (goal_has call; (fail_if_success (fail_if_success (with_reducible show wpAny _ _ (call (Value.ref _) _ _) _ _ _))); first | (k_dflt (first | (refine' call_cls0 (by k_asm) (by k_asm) (by k_asm) (by k_is) (by k_is) ?_; k_whole; intro zqx zqd zqh zqF zqN zql1 zql2; (try ((have zqU := Mine.lts_up zql1 zql2); (dsimp +zetaDelta only [List.map] at zqU))); (try k_lt zql1); (try k_lt2 zql2); (try k_sweep)) | ((first | (refine' call_cls (by k_asm) (by k_asm) (by k_asm) (by k_is) (by k_is) (by k_is) ?_; k_whole; intro zqx zqd zqh zqF zqN zql1 zql2; (try ((have zqU := Mine.lts_up zql1 zql2); (dsimp +zetaDelta only [List.map] at zqU))); (try k_lt zql1); (try k_lt2 zql2); (try k_sweep)) | (refine' Mine.call_fn (by k_asm) (by k_is) ?_; k_whole) | (refine' call_meth (by k_asm) (by k_mem) ?_; k_whole) | refine wpAny_call ?_); (first | (refine' code_defL (by exact rfl) (by exact rfl) (by first | exact rfl | assumption) (by k_asm) (by k_asm) (by k_asm) (by k_asm) (by k_asm) (by k_is) (by k_is) (by decide) (by ktr_room) (by first | exact BindsTo.of_eq rfl | exact binds_K (by k_in) rfl (by k_is) rfl rfl rfl) (by exact locs rfl) (by exact rfl) (by exact rfl) (by exact rfl) ?_; k_whole; intro zqg zqL zqh zqtk zqFG zqF zqN zqB zqX zqT zqe zqA; (try k_lift zqB); (try ((fail_if_success (fail_if_success k_fold)); (with_reducible refine Mine.wp_fold ?_); intro zqq zqe))) | (refine' code_defCL (by exact rfl) (by exact rfl) (by exact rfl) (by k_asm) (by k_asm) (by k_asm) (by k_asm) (by k_asm) (by k_is) (by k_is) (by ktr_room) (by first | exact BindsTo.of_eq rfl | exact binds_K (by k_in) rfl (by k_is) rfl rfl rfl) (by exact rfl) (by decide +kernel) (by exact rfl) (by exact rfl) (by exact rfl) ?_; k_whole; intro zqg zqL zqh zqtk zqcells zqFG zqF zqN zqY zqB zqX zqT zql1 zqe zqA; (try k_lt zql1); k_cells zqY; (try simp only [List.cons_append, List.nil_append] at zqN); (try dsimp only); (try k_lift zqB); (try ((fail_if_success (fail_if_success k_fold)); (with_reducible refine Mine.wp_fold ?_); intro zqq zqe)))))))) | walk1 | (dsimp only; walk1) | ((with_reducible show wpAny _ _ _ _ _ _); dsimp only) | (leave1; walk_say "STEP leave1"; (first | (with_reducible refine (?_ : wpAny _ _ _ _ _ _)) | try dsimp only))))
  all_goals (refine' ret _ _ (tokF [_, _, _, _, _, _, _, _, _, _, _, _, _, _, _, _, _, _, _, _, _, _, _, _, _, _, _, _]) _ _ _ _ _ ?e1 ?e2 ?e3 ?e4; (case e3 => k_asm); (case e4 => exact cb_drop (by assumption) (by kcj_all)); (case e1 => first | assumption | exact kst_ltOf (by assumption)); (case e2 => omega))
  )) only [↓Mine.wrap_i]
end
/-- a window's dict -/
abbrev winO (P : Params) (T : Nat → Tok) (ch ea la : Addr) (pt : Int) : Obj := dictOf [
  en P "number" (T 0) (.int 1 (T 16)), en P "sort" (T 1) (.int 0 (T 17)), en P "parent" (T 2) (.int 0 (T 18)), en P "children" (T 3) (.ref ch), en P "left" (T 4) (.int 0 (T 19)), en P "top" (T 5) (.int 0 (T 20)),
  en P "width" (T 6) (.int 20 (T 21)), en P "height" (T 7) (.int 10 (T 22)), en P "buffer" (T 8) (.int 1 (T 23)), en P "start" (T 9) (.int 1 (T 24)), en P "point" (T 10) (.int pt (T 25)), en P "hscroll" (T 11) (.int 0 (T 26)),
  en P "is_dedicated" (T 12) (.bool false), en P "use_time" (T 13) (.int 1 (T 27)), en P "earlier" (T 14) (.ref ea), en P "later" (T 15) (.ref la)] 16
/-- a window tree's dict -/
abbrev treeO (P : Params) (T : Nat → Tok) (wi : Addr) (se : Int) : Obj := dictOf [
  en P "windows" (T 0) (.ref wi), en P "last" (T 1) (.int 1 (T 7)), en P "clock" (T 2) (.int 1 (T 8)), en P "least_width" (T 3) (.int 10 (T 9)), en P "least_height" (T 4) (.int 4 (T 10)),
  en P "root" (T 5) (.int 1 (T 11)), en P "selected" (T 6) (.int se (T 12))] 7
section
variable {prog : Program} {w : World} {p : Program} {loose : List Str} {mean : ExcName → Option Value} {mg mb : Str → Option Value} {dp un : Nat} {gd : Option (List Code)} {cn : Str} {cnm : List (Str × NameKind)} {cg cc : Bool} {cm : List (Str × Const)} {a : Addr} {ccd : Value} {cl : List (Str × Addr)} {outer : List Env} {A₀ : Around} {base h₀ : Heap} {L : Addr} {m : Str → Option Value} {s : Shared} {Q E : Value → Shared → Prop}
/-- WindowTree(20, 10, 1) -/
theorem tree_ok {t1 t2 t3 : Tok} {own : List (Addr × Obj)}
    (B : Below A₀ base outer h₀) (F : Fr h₀ L s.heap m) (X : (Mine.fr.heap_1_1 w.params).In h₀) (N : News h₀ L s.heap own) (TT : Top p loose mean mg mb h₀)
    (hd : dp + 10 < recursionLimit) (hu : un + 300 < cLine)
    (ret : ∀ t td wn wd wi o T1 T2 ch ea la h' tk', Obj.IsDictOf (PySem.intKind prog w) o [(1, Value.ref wn)] → (wi == sysModules) = false → (∀ q ∈ own, q.1 < td) → (∀ q ∈ own, q.1 < wd) → ((@LT.lt Nat _ td t) ∧ (@LT.lt Nat _ t wi) ∧ (@LT.lt Nat _ wi wd) ∧ (@LT.lt Nat _ wd wn)) → Fr h₀ L h' m →
      News h₀ L h' ((wn, instObj 940 wd) :: (wd, winO w.params T1 ch ea la 1) :: (wi, o) :: (t, instObj 1011 td) :: (td, treeO w.params T2 wi 1) :: own) → Q (.ref t) { s with heap := h', toks := tk' }) :
    wpAny (model prog w) (ktrTop dp un gd cn ⟨.function, cnm, cg, cc, cm⟩ L a ccd cl outer) (call (.ref (1011 : Nat)) [.int 20 t1, .int 10 t2, .int 1 t3]) Q E s := by
  refine Mine.unwrap ?_
  simp (disch := k_dflt (
  have _h : PySem.Challenge.rw_on0075_01 = PySem.Challenge.rw_on0075_01 ∧ Mine.fr.heap_1_1 = Mine.fr.heap_1_1 := by (k_fill; exact ⟨rfl, rfl⟩)
  clear _h
  w_top off
  repeat' ((fail_if_success (with_reducible show wpAny _ _ (execs (PySem.Stmt.Assign [PySem.Expr.Attribute _ (Str.ofString "last") _] _ _ :: _) _) _ _ _)); (first | ((fail_if_success (fail_if_success k_unfold)); (first | (with_reducible refine (?_ : wpAny _ _ _ _ _ _)) | (k_unfold; (try dsimp only)))) | ((fail_if_success (fail_if_success k_fold)); (first | (goal_has PySem.exec; (fail_if_success (fail_if_success (with_reducible show wpAny _ _ (exec _ _) _ _ _)))) | (goal_has PySem.Expr.BoolOp; (fail_if_success (fail_if_success (with_reducible show wpAny _ _ (eval (PySem.Expr.BoolOp _ _ _) _) _ _ _)))) | (goal_has PySem.Expr.Call; (fail_if_success (fail_if_success (with_reducible show wpAny _ _ (eval (PySem.Expr.Call _ _ _ _) _) _ _ _)))) | (goal_has PySem.Expr.Compare; (fail_if_success (fail_if_success (with_reducible show wpAny _ _ (eval (PySem.Expr.Compare _ _ _ _) _) _ _ _))))); (with_reducible refine Mine.wp_fold ?_); intro zqq zqe) | (goal_has PySem.Shared.mk; (with_reducible refine Mine.st_let ?_); intro zqs; goal_lacks PySem.Shared.mk) | ((ctx_mentions ite List.lookup); (rename Fr _ _ _ _ => zqF9); revert zqF9; (goal_has ite List.lookup); (with_reducible refine Mine.fr_let ?_); intro zqm; goal_lacks ite List.lookup; intro zqF) | (k_end; wrow_close) | (goal_has call; (fail_if_success (fail_if_success (with_reducible show wpAny _ _ (call (Value.ref _) _ _) _ _ _))); first | ((fail_if_success (fail_if_success (with_reducible show wpAny _ _ (call (Value.ref (940 : Nat)) [Value.int _ _, Value.int _ _, Value.int _ _]) _ _ _))); k_dflt (refine' Mine.win_ok (by k_asm) (by k_asm) (by k_asm) (by k_asm) (by k_asm) (by ktr_room) (by ktr_units) ?_); intro zqx' zqwd' zqT' zqch' zqea' zqla' zqh' zqtk' zql1 zql2 zqF' zqN'; (try k_lt zql1); (try k_sweep); (try dsimp only); (try ((fail_if_success (fail_if_success k_fold)); (with_reducible refine Mine.wp_fold ?_); intro zqq zqe))) | (k_dflt (first | (refine' call_cls0 (by k_asm) (by k_asm) (by k_asm) (by k_is) (by k_is) ?_; k_whole; intro zqx zqd zqh zqF zqN zql1 zql2; (try ((have zqU := Mine.lts_up zql1 zql2); (dsimp +zetaDelta only [List.map] at zqU))); (try k_lt zql1); (try k_lt2 zql2); (try k_sweep)) | ((first | (refine' call_cls (by k_asm) (by k_asm) (by k_asm) (by k_is) (by k_is) (by k_is) ?_; k_whole; intro zqx zqd zqh zqF zqN zql1 zql2; (try ((have zqU := Mine.lts_up zql1 zql2); (dsimp +zetaDelta only [List.map] at zqU))); (try k_lt zql1); (try k_lt2 zql2); (try k_sweep)) | (refine' Mine.call_fn (by k_asm) (by k_is) ?_; k_whole) | (refine' call_meth (by k_asm) (by k_mem) ?_; k_whole) | refine wpAny_call ?_); (first | (refine' code_defL (by exact rfl) (by exact rfl) (by first | exact rfl | assumption) (by k_asm) (by k_asm) (by k_asm) (by k_asm) (by k_asm) (by k_is) (by k_is) (by decide) (by ktr_room) (by first | exact BindsTo.of_eq rfl | exact binds_K (by k_in) rfl (by k_is) rfl rfl rfl) (by exact locs rfl) (by exact rfl) (by exact rfl) (by exact rfl) ?_; k_whole; intro zqg zqL zqh zqtk zqFG zqF zqN zqB zqX zqT zqe zqA; (try k_lift zqB); (try ((fail_if_success (fail_if_success k_fold)); (with_reducible refine Mine.wp_fold ?_); intro zqq zqe))) | (refine' code_defCL (by exact rfl) (by exact rfl) (by exact rfl) (by k_asm) (by k_asm) (by k_asm) (by k_asm) (by k_asm) (by k_is) (by k_is) (by ktr_room) (by first | exact BindsTo.of_eq rfl | exact binds_K (by k_in) rfl (by k_is) rfl rfl rfl) (by exact rfl) (by decide +kernel) (by exact rfl) (by exact rfl) (by exact rfl) ?_; k_whole; intro zqg zqL zqh zqtk zqcells zqFG zqF zqN zqY zqB zqX zqT zql1 zqe zqA; (try k_lt zql1); k_cells zqY; (try simp only [List.cons_append, List.nil_append] at zqN); (try dsimp only); (try k_lift zqB); (try ((fail_if_success (fail_if_success k_fold)); (with_reducible refine Mine.wp_fold ?_); intro zqq zqe)))))))) | walk1 | (dsimp only; walk1) | ((with_reducible show wpAny _ _ _ _ _ _); dsimp only) | (leave1; walk_say "STEP leave1"; (first | (with_reducible refine (?_ : wpAny _ _ _ _ _ _)) | try dsimp only))))
  (with_reducible refine Mine.st_let ?_); intro zqs; (refine' Mine.stores_run (news := fun o => _ :: (_, _) :: (_, o) :: _) (by exact (Mine.Stores.cons Mine.IsSrc.int (Mine.Stores.cons Mine.IsSrc.int (Mine.Stores.cons Mine.IsSrc.name (Mine.Stores.cons Mine.IsSrc.name Mine.Stores.nil))))) (by k_asm) (by k_asm) (by k_asm) (by exact Top.nolimit (by k_asm)) (by exact rfl) (by exact rfl) (by exact rfl) (by exact rfl) (by exact fun _ => List.Mem.tail _ (List.Mem.head _)) (by (intro o o'; k_upd)) (by k_is) (by k_is) (by k_is) (by repeat' (first | exact True.intro | refine And.intro ?_ ?_ | k_is | exact rfl)) (by kernel_rfl) (by decide +kernel) (by exact Nat.le_of_ble_eq_true rfl) ?_; intro T' Ad' h' tk' F' N'; (try k_sweep))
  dsimp only [Mine.entsF, Mine.srcVal, List.nil_append, List.cons_append, List.length_cons, List.length_nil] at N'
  repeat' ((first | ((fail_if_success (fail_if_success k_unfold)); (first | (with_reducible refine (?_ : wpAny _ _ _ _ _ _)) | (k_unfold; (try dsimp only)))) | ((fail_if_success (fail_if_success k_fold)); (first | (goal_has PySem.exec; (fail_if_success (fail_if_success (with_reducible show wpAny _ _ (exec _ _) _ _ _)))) | (goal_has PySem.Expr.BoolOp; (fail_if_success (fail_if_success (with_reducible show wpAny _ _ (eval (PySem.Expr.BoolOp _ _ _) _) _ _ _)))) | (goal_has PySem.Expr.Call; (fail_if_success (fail_if_success (with_reducible show wpAny _ _ (eval (PySem.Expr.Call _ _ _ _) _) _ _ _)))) | (goal_has PySem.Expr.Compare; (fail_if_success (fail_if_success (with_reducible show wpAny _ _ (eval (PySem.Expr.Compare _ _ _ _) _) _ _ _))))); (with_reducible refine Mine.wp_fold ?_); intro zqq zqe) | (goal_has PySem.Shared.mk; (with_reducible refine Mine.st_let ?_); intro zqs; goal_lacks PySem.Shared.mk) | ((ctx_mentions ite List.lookup); (rename Fr _ _ _ _ => zqF9); revert zqF9; (goal_has ite List.lookup); (with_reducible refine Mine.fr_let ?_); intro zqm; goal_lacks ite List.lookup; intro zqF) | (k_end; wrow_close) | (goal_has call; (fail_if_success (fail_if_success (with_reducible show wpAny _ _ (call (Value.ref _) _ _) _ _ _))); first | ((fail_if_success (fail_if_success (with_reducible show wpAny _ _ (call (Value.ref (940 : Nat)) [Value.int _ _, Value.int _ _, Value.int _ _]) _ _ _))); k_dflt (refine' Mine.win_ok (by k_asm) (by k_asm) (by k_asm) (by k_asm) (by k_asm) (by ktr_room) (by ktr_units) ?_); intro zqx' zqwd' zqT' zqch' zqea' zqla' zqh' zqtk' zql1 zql2 zqF' zqN'; (try k_lt zql1); (try k_sweep); (try dsimp only); (try ((fail_if_success (fail_if_success k_fold)); (with_reducible refine Mine.wp_fold ?_); intro zqq zqe))) | (k_dflt (first | (refine' call_cls0 (by k_asm) (by k_asm) (by k_asm) (by k_is) (by k_is) ?_; k_whole; intro zqx zqd zqh zqF zqN zql1 zql2; (try ((have zqU := Mine.lts_up zql1 zql2); (dsimp +zetaDelta only [List.map] at zqU))); (try k_lt zql1); (try k_lt2 zql2); (try k_sweep)) | ((first | (refine' call_cls (by k_asm) (by k_asm) (by k_asm) (by k_is) (by k_is) (by k_is) ?_; k_whole; intro zqx zqd zqh zqF zqN zql1 zql2; (try ((have zqU := Mine.lts_up zql1 zql2); (dsimp +zetaDelta only [List.map] at zqU))); (try k_lt zql1); (try k_lt2 zql2); (try k_sweep)) | (refine' Mine.call_fn (by k_asm) (by k_is) ?_; k_whole) | (refine' call_meth (by k_asm) (by k_mem) ?_; k_whole) | refine wpAny_call ?_); (first | (refine' code_defL (by exact rfl) (by exact rfl) (by first | exact rfl | assumption) (by k_asm) (by k_asm) (by k_asm) (by k_asm) (by k_asm) (by k_is) (by k_is) (by decide) (by ktr_room) (by first | exact BindsTo.of_eq rfl | exact binds_K (by k_in) rfl (by k_is) rfl rfl rfl) (by exact locs rfl) (by exact rfl) (by exact rfl) (by exact rfl) ?_; k_whole; intro zqg zqL zqh zqtk zqFG zqF zqN zqB zqX zqT zqe zqA; (try k_lift zqB); (try ((fail_if_success (fail_if_success k_fold)); (with_reducible refine Mine.wp_fold ?_); intro zqq zqe))) | (refine' code_defCL (by exact rfl) (by exact rfl) (by exact rfl) (by k_asm) (by k_asm) (by k_asm) (by k_asm) (by k_asm) (by k_is) (by k_is) (by ktr_room) (by first | exact BindsTo.of_eq rfl | exact binds_K (by k_in) rfl (by k_is) rfl rfl rfl) (by exact rfl) (by decide +kernel) (by exact rfl) (by exact rfl) (by exact rfl) ?_; k_whole; intro zqg zqL zqh zqtk zqcells zqFG zqF zqN zqY zqB zqX zqT zql1 zqe zqA; (try k_lt zql1); k_cells zqY; (try simp only [List.cons_append, List.nil_append] at zqN); (try dsimp only); (try k_lift zqB); (try ((fail_if_success (fail_if_success k_fold)); (with_reducible refine Mine.wp_fold ?_); intro zqq zqe)))))))) | walk1 | (dsimp only; walk1) | ((with_reducible show wpAny _ _ _ _ _ _); dsimp only) | (leave1; walk_say "STEP leave1"; (first | (with_reducible refine (?_ : wpAny _ _ _ _ _ _)) | try dsimp only))))
  all_goals (refine' ret _ _ _ _ _ _ (tokF [_, _, _, _, _, _, _, _, _, _, _, _, _, _, _, _, _, _, _, _, _, _, _, _, _, _, _, _]) (tokF [_, _, _, _, _, _, _, _, _, _, _, _, _]) _ _ _ _ _ ?e0 ?e1 ?e2 ?e6 ?e3 ?e4 ?e5; (case e4 => k_asm); (case e5 => exact cb_drop (by assumption) (by kcj_all)); (case e0 => assumption); (case e1 => assumption); (case e2 => first | assumption | exact fun q hq => kst_ltOf (by assumption) q hq | exact fun q hq => kst_ltOf (And.right (And.right (by assumption))) q hq); (case e6 => (intro q hq; first | exact kst_ltOf (And.right (And.right (And.right (by assumption)))) q hq)); (case e3 => (refine ⟨?_, ?_, ?_, ?_⟩ <;> omega)))
  )) only [↓Mine.wrap_i]
end
section
variable {prog : Program} {w : World} {p : Program} {loose : List Str} {mean : ExcName → Option Value} {mg mb : Str → Option Value} {dp un : Nat} {gd : Option (List Code)} {cn : Str} {cnm : List (Str × NameKind)} {cg cc : Bool} {cm : List (Str × Const)} {a : Addr} {ccd : Value} {cl : List (Str × Addr)} {outer : List Env} {A₀ : Around} {base h₀ : Heap} {L : Addr} {m : Str → Option Value} {s : Shared} {Q E : Value → Shared → Prop}

/-- buffer.goto(x) -/
theorem goto_core {b bd g mk li : Addr} {T1 : Nat → Tok} {nm : Str} {pt bv zv tk1 ck sv x : Int} {t1 : Tok} {ro : Bool} {own : List (Addr × Obj)}
    (B : Below A₀ base outer h₀) (F : Fr h₀ L s.heap m) (X : (Mine.fr.heap_1_1 w.params).In h₀) (N : News h₀ L s.heap ((bd, bufO w.params T1 nm g mk li pt bv zv tk1 ck sv ro) :: own)) (TT : Top p loose mean mg mb h₀)
    (mb' : (b, instObj 435 bd) ∈ own) (hb : bv ≤ zv) (ho : ∀ p ∈ own, p.1 ≠ bd)
    (hd : dp + 2 < recursionLimit) (hu : un + 100 < cLine)
    (ret : ∀ h' tk' T1' pt' t', bv ≤ pt' → pt' ≤ zv → Fr h₀ L h' m → News h₀ L h' ((bd, bufO w.params T1' nm g mk li pt' bv zv tk1 ck sv ro) :: own) → Q (.int pt' t') { s with heap := h', toks := tk' }) :
    wpAny (model prog w) (ktrTop dp un gd cn ⟨.function, cnm, cg, cc, cm⟩ L a ccd cl outer) (call (.ref (404 : Nat)) [.ref b, .int x t1]) Q E s := by
  refine Mine.unwrap ?_
  simp (disch := k_dflt (
  have _h : PySem.Challenge.rw_on0075_01 = PySem.Challenge.rw_on0075_01 ∧ Mine.fr.heap_1_1 = Mine.fr.heap_1_1 := by (k_fill; exact ⟨rfl, rfl⟩)
  clear _h
  w_top off
  repeat' ((first | ((fail_if_success (fail_if_success k_unfold)); (first | (with_reducible refine (?_ : wpAny _ _ _ _ _ _)) | (k_unfold; (try dsimp only)))) | ((fail_if_success (fail_if_success k_fold)); (first | (goal_has PySem.exec; (fail_if_success (fail_if_success (with_reducible show wpAny _ _ (exec _ _) _ _ _)))) | (goal_has PySem.Expr.BoolOp; (fail_if_success (fail_if_success (with_reducible show wpAny _ _ (eval (PySem.Expr.BoolOp _ _ _) _) _ _ _)))) | (goal_has PySem.Expr.Call; (fail_if_success (fail_if_success (with_reducible show wpAny _ _ (eval (PySem.Expr.Call _ _ _ _) _) _ _ _)))) | (goal_has PySem.Expr.Compare; (fail_if_success (fail_if_success (with_reducible show wpAny _ _ (eval (PySem.Expr.Compare _ _ _ _) _) _ _ _))))); (with_reducible refine Mine.wp_fold ?_); intro zqq zqe) | (goal_has PySem.Shared.mk; (with_reducible refine Mine.st_let ?_); intro zqs; goal_lacks PySem.Shared.mk) | ((ctx_mentions ite List.lookup); (rename Fr _ _ _ _ => zqF9); revert zqF9; (goal_has ite List.lookup); (with_reducible refine Mine.fr_let ?_); intro zqm; goal_lacks ite List.lookup; intro zqF) | ((ctx_mentions List.cons HAppend.hAppend List.append); (rename News _ _ _ _ => zqN9); (fail_if_success (fail_if_success (conv at zqN9 => arg 4; arg 2))); (with_reducible refine Mine.news_let zqN9 ?_); intro zql zqN; clear zqN9) | (k_end; wrow_close) | (goal_has call; (fail_if_success (fail_if_success (with_reducible show wpAny _ _ (call (Value.ref _) _ _) _ _ _))); first | (k_dflt (first | (refine' call_cls0 (by k_asm) (by k_asm) (by k_asm) (by k_is) (by k_is) ?_; k_whole; intro zqx zqd zqh zqF zqN zql1 zql2; (try ((have zqU := Mine.lts_up zql1 zql2); (dsimp +zetaDelta only [List.map] at zqU))); (try k_lt zql1); (try k_lt2 zql2); (try k_sweep)) | ((first | (refine' call_cls (by k_asm) (by k_asm) (by k_asm) (by k_is) (by k_is) (by k_is) ?_; k_whole; intro zqx zqd zqh zqF zqN zql1 zql2; (try ((have zqU := Mine.lts_up zql1 zql2); (dsimp +zetaDelta only [List.map] at zqU))); (try k_lt zql1); (try k_lt2 zql2); (try k_sweep)) | (refine' Mine.call_fn (by k_asm) (by k_is) ?_; k_whole) | (refine' call_meth (by k_asm) (by k_mem) ?_; k_whole) | refine wpAny_call ?_); (first | (refine' code_defL (by exact rfl) (by exact rfl) (by first | exact rfl | assumption) (by k_asm) (by k_asm) (by k_asm) (by k_asm) (by k_asm) (by k_is) (by k_is) (by decide) (by ktr_room) (by first | exact BindsTo.of_eq rfl | exact binds_K (by k_in) rfl (by k_is) rfl rfl rfl) (by exact locs rfl) (by exact rfl) (by exact rfl) (by exact rfl) ?_; k_whole; intro zqg zqL zqh zqtk zqFG zqF zqN zqB zqX zqT zqe zqA; (try k_lift zqB); (try ((fail_if_success (fail_if_success k_fold)); (with_reducible refine Mine.wp_fold ?_); intro zqq zqe))) | (refine' code_defCL (by exact rfl) (by exact rfl) (by exact rfl) (by k_asm) (by k_asm) (by k_asm) (by k_asm) (by k_asm) (by k_is) (by k_is) (by ktr_room) (by first | exact BindsTo.of_eq rfl | exact binds_K (by k_in) rfl (by k_is) rfl rfl rfl) (by exact rfl) (by decide +kernel) (by exact rfl) (by exact rfl) (by exact rfl) ?_; k_whole; intro zqg zqL zqh zqtk zqcells zqFG zqF zqN zqY zqB zqX zqT zql1 zqe zqA; (try k_lt zql1); k_cells zqY; (try simp only [List.cons_append, List.nil_append] at zqN); (try dsimp only); (try k_lift zqB); (try ((fail_if_success (fail_if_success k_fold)); (with_reducible refine Mine.wp_fold ?_); intro zqq zqe)))))))) | walk1 | (dsimp only; walk1) | ((with_reducible show wpAny _ _ _ _ _ _); dsimp only) | (leave1; walk_say "STEP leave1"; (first | (with_reducible refine (?_ : wpAny _ _ _ _ _ _)) | try dsimp only))))
  all_goals (rename Fr _ _ _ _ => F9; rename News _ _ _ _ => N9)
  all_goals (refine' ret _ _ (tokF [_, _, _, _, _, _, _, _, _, _, _, _, _, _, _, _, _, _, _, _, _, _, _, _, _, _, _, _]) _ _ ?b1 ?b2 F9 ?eN; (case eN => exact cb_drop N9 (by kcj_all)); (case b1 => (repeat' split) <;> omega); (case b2 => (repeat' split) <;> omega))
  )) only [↓Mine.wrap_i]

theorem goto_ok {b bd g mk li : Addr} {T1 : Nat → Tok} {nm : Str} {pt bv zv tk1 ck sv x : Int} {t1 : Tok} {ro : Bool} {news : List (Addr × Obj)} {news₁ : Obj → List (Addr × Obj)}
    (B : Below A₀ base outer h₀) (F : Fr h₀ L s.heap m) (X : (Mine.fr.heap_1_1 w.params).In h₀) (N : News h₀ L s.heap news) (TT : Top p loose mean mg mb h₀)
    (mb' : (b, instObj 435 bd) ∈ news) (hne : @Ne Nat b bd) (U : ∀ o', Upd bd (bufO w.params T1 nm g mk li pt bv zv tk1 ck sv ro) o' news (news₁ o')) (hb : bv ≤ zv)
    (hd : dp + 2 < recursionLimit) (hu : un + 100 < cLine)
    (ret : ∀ h' tk' T1' pt' t', bv ≤ pt' → pt' ≤ zv → Fr h₀ L h' m → News h₀ L h' (news₁ (bufO w.params T1' nm g mk li pt' bv zv tk1 ck sv ro)) → Q (.int pt' t') { s with heap := h', toks := tk' }) :
    wpAny (model prog w) (ktrTop dp un gd cn ⟨.function, cnm, cg, cc, cm⟩ L a ccd cl outer) (call (.ref (404 : Nat)) [.ref b, .int x t1]) Q E s :=
  goto_core B F X (one_in U N) TT (less1_of mb' hne) hb (fun q hq => (less1_mem.mp hq).2) hd hu fun h' tk' T1' pt' t' b1 b2 F' N' => ret h' tk' T1' pt' t' b1 b2 F' (one_out U N')
/-- point_in of a window: its own point or the buffer's, kept within what can be reached -/
def clampI (x lo hi : Int) : Int := if hi < (if lo > x then lo else x) then hi else (if lo > x then lo else x)
end
/-- the editor, its windows and the window put out of sight; the tree's dict stays -/
theorem pt_hide {h₀ h : Heap} {L wn wd t td x ed wi bt lm mm ud mk am re ch ea la : Addr} {P : Params} {T1 T2 T3 : Nat → Tok} {wp se : Int} {msg : Str} {rest : List (Addr × Obj)}
    (N : News h₀ L h ((wn, instObj 940 wd) :: (wd, winO P T1 ch ea la wp) :: (t, instObj 1011 td) :: (td, treeO P T2 wi se) :: (x, instObj 810 ed) :: (ed, edO P T3 bt lm mm ud mk am re (.ref t) msg) :: rest))
    (h1 : @Ne Nat wn td) (h2 : @Ne Nat wd td) (h3 : @Ne Nat t td) (h4 : @Ne Nat x td) (h5 : @Ne Nat ed td) (h6 : ∀ p ∈ rest, p.1 ≠ td) :
    ∃ own', News h₀ L h ((td, treeO P T2 wi se) :: own') ∧ (wn, instObj 940 wd) ∈ own' ∧ (wd, winO P T1 ch ea la wp) ∈ own' ∧ (t, instObj 1011 td) ∈ own' ∧ (x, instObj 810 ed) ∈ own' ∧ (ed, edO P T3 bt lm mm ud mk am re (.ref t) msg) ∈ own' ∧ (∀ p ∈ rest, p ∈ own') ∧ ∀ p ∈ own', p.1 ≠ td := by
  refine ⟨(wn, instObj 940 wd) :: (wd, winO P T1 ch ea la wp) :: (t, instObj 1011 td) :: (x, instObj 810 ed) :: (ed, edO P T3 bt lm mm ud mk am re (.ref t) msg) :: rest, fun p hp => N p ?_, .head _, .tail _ (.head _), .tail _ (.tail _ (.head _)), .tail _ (.tail _ (.tail _ (.head _))), .tail _ (.tail _ (.tail _ (.tail _ (.head _)))), fun p hp => .tail _ (.tail _ (.tail _ (.tail _ (.tail _ hp)))), ?_⟩
  · simp only [List.mem_cons] at hp ⊢
    rcases hp with h | h | h | h | h | h | h
    · exact .inr (.inr (.inr (.inl h)))
    · exact .inl h
    · exact .inr (.inl h)
    · exact .inr (.inr (.inl h))
    · exact .inr (.inr (.inr (.inr (.inl h))))
    · exact .inr (.inr (.inr (.inr (.inr (.inl h)))))
    · exact .inr (.inr (.inr (.inr (.inr (.inr h)))))
  · exact List.forall_mem_cons.mpr ⟨h1, List.forall_mem_cons.mpr ⟨h2, List.forall_mem_cons.mpr ⟨h3, List.forall_mem_cons.mpr ⟨h4, List.forall_mem_cons.mpr ⟨h5, h6⟩⟩⟩⟩⟩
section
variable {prog : Program} {w : World} {p : Program} {loose : List Str} {mean : ExcName → Option Value} {mg mb : Str → Option Value} {dp un : Nat} {gd : Option (List Code)} {cn : Str} {cnm : List (Str × NameKind)} {cg cc : Bool} {cm : List (Str × Const)} {a : Addr} {ccd : Value} {cl : List (Str × Addr)} {outer : List Env} {A₀ : Around} {base h₀ : Heap} {L : Addr} {m : Str → Option Value} {s : Shared} {Q E : Value → Shared → Prop}

theorem points_core {d c b bd g gp ce mk li : Addr} {vs wz : List Value} {ns zz pad z0 : List Int} {S k : Int} {tS tk : Tok} {n nc nce : Nat} {T1 T2 : Nat → Tok} {nm : Str} {pt bv zv tk1 ck sv gs ge : Int} {ro : Bool} {own : List (Addr × Obj)}
    (B : Below A₀ base outer h₀) (F : Fr h₀ L s.heap m) (X : (Mine.fr.heap_1_1 w.params).In h₀) (N : News h₀ L s.heap ((d, deckO c S tS k tk n) :: (c, listOf vs.toArray nc) :: (bd, bufO w.params T1 nm g mk li pt bv zv tk1 ck sv ro) :: own)) (TT : Top p loose mean mg mb h₀)
    (hi : IntsAre vs ns) (hlen : ns.length ≤ 24) (hoffd : ∀ p ∈ own, p.1 ≠ d) (hoffc : ∀ p ∈ own, p.1 ≠ c) (hoffb : ∀ p ∈ own, p.1 ≠ bd) (hdc : @Ne Nat d c) (hdb : @Ne Nat d bd) (hcb : @Ne Nat c bd)
    (mb' : (b, instObj 435 bd) ∈ own) (mg' : (g, instObj 224 gp) ∈ own) (mgp : (gp, gapO w.params T2 ce gs ge) ∈ own) (mce : (ce, listOf wz.toArray nce) ∈ own)
    (hz : IntsAre wz zz) (ez : zz = z0 ++ pad) (egs : gs = (z0.length : Int)) (ege : ge = (zz.length : Int)) (hzz : zz.length ≤ 100) (hl0 : z0.length ≤ 20) (hb1 : 1 ≤ bv) (hb2 : bv ≤ zv) (hb3 : zv ≤ (z0.length : Int) + 1)
    (hd : dp + 40 < recursionLimit) (hu : un + 800 < cLine)
    (ret : ∀ h' tk' vs' ns' k' tk2 n' nc' T1' pt', IntsAre vs' ns' → ns'.length ≤ 24 → Fr h₀ L h' m →
      News h₀ L h' ((d, deckO c S tS k' tk2 n') :: (c, listOf (List.toArray vs') nc') :: (bd, bufO w.params T1' nm g mk li pt' bv zv tk1 ck sv ro) :: own) → Q (.bool true) { s with heap := h', toks := tk' }) :
    wpAny (model prog w) (ktrTop dp un gd cn ⟨.function, cnm, cg, cc, cm⟩ L a ccd cl outer) (call (.ref (1063 : Nat)) [.ref d, .ref b]) Q E s := by
  refine Mine.unwrap ?_
  simp (disch := k_dflt (
  have _h : PySem.Challenge.rw_on0075_01 = PySem.Challenge.rw_on0075_01 ∧ Mine.fr.heap_1_1 = Mine.fr.heap_1_1 := by (k_fill; exact ⟨rfl, rfl⟩)
  clear _h
  w_top off
  have hbb : @Ne Nat b bd := hoffb _ mb'
  repeat' ((fail_if_success (with_reducible show wpAny _ _ (call (Value.ref (113 : Nat)) _) _ _ _)); ((first | ((fail_if_success (fail_if_success k_unfold)); (first | (with_reducible refine (?_ : wpAny _ _ _ _ _ _)) | (k_unfold; (try dsimp only)))) | ((fail_if_success (fail_if_success k_fold)); (first | (goal_has PySem.exec; (fail_if_success (fail_if_success (with_reducible show wpAny _ _ (exec _ _) _ _ _)))) | (goal_has PySem.Expr.BoolOp; (fail_if_success (fail_if_success (with_reducible show wpAny _ _ (eval (PySem.Expr.BoolOp _ _ _) _) _ _ _)))) | (goal_has PySem.Expr.Call; (fail_if_success (fail_if_success (with_reducible show wpAny _ _ (eval (PySem.Expr.Call _ _ _ _) _) _ _ _)))) | (goal_has PySem.Expr.Compare; (fail_if_success (fail_if_success (with_reducible show wpAny _ _ (eval (PySem.Expr.Compare _ _ _ _) _) _ _ _))))); (with_reducible refine Mine.wp_fold ?_); intro zqq zqe) | (goal_has PySem.Shared.mk; (with_reducible refine Mine.st_let ?_); intro zqs; goal_lacks PySem.Shared.mk) | ((ctx_mentions ite List.lookup); (rename Fr _ _ _ _ => zqF9); revert zqF9; (goal_has ite List.lookup); (with_reducible refine Mine.fr_let ?_); intro zqm; goal_lacks ite List.lookup; intro zqF) | (k_end; wrow_close) | (goal_has PySem.Value.builtin; ((fail_if_success (fail_if_success (with_reducible show wpAny _ _ (call (Value.builtin "len") [Value.ref _]) _ _ _))); k_dflt (refine' kst_len (by k_asm) (by k_mem) (by exact IntsAre.length (by assumption)) (by omega) ?_; k_whole))) | (goal_has call; (fail_if_success (fail_if_success (with_reducible show wpAny _ _ (call (Value.ref _) _ _) _ _ _))); first | ((fail_if_success (fail_if_success (with_reducible show wpAny _ _ (call (Value.ref (404 : Nat)) [Value.ref _, Value.int _ _]) _ _ _))); k_dflt (refine' Mine.goto_ok (by k_asm) (by k_asm) (by k_asm) (by k_asm) (by k_asm) (by k_mem) (by k_ne) (by (intro zqo'; k_upd)) (by first | assumption | omega) (by ktr_room) (by ktr_units) ?_); intro zqh' zqtk' zqT1' zqpt' zqt' zqhpt1' zqhpt2' zqF' zqN'; (try dsimp only at zqN'); (try k_sweep); (try dsimp only); (try ((fail_if_success (fail_if_success k_fold)); (with_reducible refine Mine.wp_fold ?_); intro zqq zqe))) | ((fail_if_success (fail_if_success (with_reducible show wpAny _ _ (call (Value.ref (1011 : Nat)) [Value.int _ _, Value.int _ _, Value.int _ _]) _ _ _))); k_dflt (refine' Mine.tree_ok (by k_asm) (by k_asm) (by k_asm) (by k_asm) (by k_asm) (by ktr_room) (by ktr_units) ?_); intro zqt' zqtd' zqwn' zqwd' zqwi' zqo' zqT1' zqT2' zqch' zqea' zqla' zqh' zqtk' zqhd' zqlo' zql1 zql3 zql2 zqF' zqN'; (obtain ⟨lu1, lu2, lu3, lu4⟩ := Mine.lts_chain4 zql1 zql2); (try dsimp +zetaDelta only [List.map] at lu1 lu2 lu3 lu4); (try k_lt zql1); (try k_lt zql3); (try k_sweep); (try dsimp only); (try ((fail_if_success (fail_if_success k_fold)); (with_reducible refine Mine.wp_fold ?_); intro zqq zqe))) | ((fail_if_success (fail_if_success (with_reducible show wpAny _ _ (call (Value.ref (810 : Nat)) [Value.ref _, Value.none, Value.none]) _ _ _))); k_dflt (refine' Mine.editor_ok (by k_asm) (by k_asm) (by k_asm) (by k_asm) (by k_asm) (by ktr_room) (by ktr_units) ?_); intro zqx' zqed' zqT' zqlm' zqmm' zqud' zqmk' zqam' zqre' zqh' zqtk' zql1 zql2 zqF' zqN'; (have lu1 := Mine.lts_up zql1 zql2); (try dsimp +zetaDelta only [List.map] at lu1); (try k_lt zql1); (try k_sweep); (try dsimp only); (try ((fail_if_success (fail_if_success k_fold)); (with_reducible refine Mine.wp_fold ?_); intro zqq zqe))) | ((fail_if_success (fail_if_success (with_reducible show wpAny _ _ (call (Value.ref (578 : Nat)) _) _ _ _))); k_dflt (refine' Mine.bt_ok (by k_asm) (by k_asm) (by k_asm) (by k_asm) (by k_asm) (by ktr_room) (by ktr_units) ?_); intro zqx' zqh' zqtk' zqF' zqN'; (try k_sweep); (try dsimp only); (try ((fail_if_success (fail_if_success k_fold)); (with_reducible refine Mine.wp_fold ?_); intro zqq zqe))) | ((fail_if_success (fail_if_success (with_reducible show wpAny _ _ (call (Value.ref (1027 : Nat)) [Value.ref _, Value.int _ _]) _ _ _))); k_dflt (refine' Mine.draw_ok (by k_asm) (by k_asm) (by k_asm) (by k_asm) (by k_asm) (by first | exact rfl | assumption) (by (intro zqo'; k_upd)) (by (intro zqo₁ zqo'; k_upd)) (by l_ints) (by first | assumption | omega) (by first | decide | omega) (by first | decide | omega) (by ktr_room) (by ktr_units) ?_); intro zqr' zqt' zqh' zqtk' zqvs' zqns' zqk' zqtk2' zqn' zqnc' zqhr0' zqhr1' zqhi' zqhl' zqF' zqN'; (try dsimp only at zqN'); (try k_sweep); (try dsimp only); (try ((fail_if_success (fail_if_success k_fold)); (with_reducible refine Mine.wp_fold ?_); intro zqq zqe))) | (k_dflt (first | (refine' call_cls0 (by k_asm) (by k_asm) (by k_asm) (by k_is) (by k_is) ?_; k_whole; intro zqx zqd zqh zqF zqN zql1 zql2; (try ((have zqU := Mine.lts_up zql1 zql2); (dsimp +zetaDelta only [List.map] at zqU))); (try k_lt zql1); (try k_lt2 zql2); (try k_sweep)) | ((first | (refine' call_cls (by k_asm) (by k_asm) (by k_asm) (by k_is) (by k_is) (by k_is) ?_; k_whole; intro zqx zqd zqh zqF zqN zql1 zql2; (try ((have zqU := Mine.lts_up zql1 zql2); (dsimp +zetaDelta only [List.map] at zqU))); (try k_lt zql1); (try k_lt2 zql2); (try k_sweep)) | (refine' Mine.call_fn (by k_asm) (by k_is) ?_; k_whole) | (refine' call_meth (by k_asm) (by k_mem) ?_; k_whole) | refine wpAny_call ?_); (first | (refine' code_defL (by exact rfl) (by exact rfl) (by first | exact rfl | assumption) (by k_asm) (by k_asm) (by k_asm) (by k_asm) (by k_asm) (by k_is) (by k_is) (by decide) (by ktr_room) (by first | exact BindsTo.of_eq rfl | exact binds_K (by k_in) rfl (by k_is) rfl rfl rfl) (by exact locs rfl) (by exact rfl) (by exact rfl) (by exact rfl) ?_; k_whole; intro zqg zqL zqh zqtk zqFG zqF zqN zqB zqX zqT zqe zqA; (try k_lift zqB); (try ((fail_if_success (fail_if_success k_fold)); (with_reducible refine Mine.wp_fold ?_); intro zqq zqe))) | (refine' code_defCL (by exact rfl) (by exact rfl) (by exact rfl) (by k_asm) (by k_asm) (by k_asm) (by k_asm) (by k_asm) (by k_is) (by k_is) (by ktr_room) (by first | exact BindsTo.of_eq rfl | exact binds_K (by k_in) rfl (by k_is) rfl rfl rfl) (by exact rfl) (by decide +kernel) (by exact rfl) (by exact rfl) (by exact rfl) ?_; k_whole; intro zqg zqL zqh zqtk zqcells zqFG zqF zqN zqY zqB zqX zqT zql1 zqe zqA; (try k_lt zql1); k_cells zqY; (try simp only [List.cons_append, List.nil_append] at zqN); (try dsimp only); (try k_lift zqB); (try ((fail_if_success (fail_if_success k_fold)); (with_reducible refine Mine.wp_fold ?_); intro zqq zqe)))))))) | walk1 | (dsimp only; walk1) | ((with_reducible show wpAny _ _ _ _ _ _); dsimp only) | (leave1; walk_say "STEP leave1"; (first | (with_reducible refine (?_ : wpAny _ _ _ _ _ _)) | try dsimp only)))))
  rename Fr _ _ _ _ => F9
  rename News _ _ _ _ => N9
  have N7 : News _ _ _ ((_, instObj 940 _) :: (_, winO w.params (tokF [_, _, _, _, _, _, _, _, _, _, _, _, _, _, _, _, _, _, _, _, _, _, _, _, _, _, _, _]) _ _ _ _) :: (_, instObj 1011 _) :: (_, treeO w.params _ _ _) :: (_, instObj 810 _) :: (_, edO w.params (tokF [_, _, _, _, _, _, _, _, _, _, _, _, _, _, _, _, _, _, _, _, _, _, _, _, _, _, _, _, _, _, _, _, _]) _ _ _ _ _ _ _ (.ref _) _) :: _ :: _ :: _ :: own) := cb_drop N9 (List.forall_mem_cons.mpr ⟨.head _, List.forall_mem_cons.mpr ⟨.tail _ (.head _), List.forall_mem_cons.mpr ⟨.tail _ (.tail _ (.tail _ (.head _))), List.forall_mem_cons.mpr ⟨.tail _ (.tail _ (.tail _ (.tail _ (.head _)))), List.forall_mem_cons.mpr ⟨.tail _ (.tail _ (.tail _ (.tail _ (.tail _ (.head _))))), List.forall_mem_cons.mpr ⟨.tail _ (.tail _ (.tail _ (.tail _ (.tail _ (.tail _ (.head _)))))), List.forall_mem_cons.mpr ⟨.tail _ (.tail _ (.tail _ (.tail _ (.tail _ (.tail _ (.tail _ (.head _))))))), List.forall_mem_cons.mpr ⟨.tail _ (.tail _ (.tail _ (.tail _ (.tail _ (.tail _ (.tail _ (.tail _ (.head _)))))))), List.forall_mem_cons.mpr ⟨.tail _ (.tail _ (.tail _ (.tail _ (.tail _ (.tail _ (.tail _ (.tail _ (.tail _ (.head _))))))))), fun q hq => .tail _ (.tail _ (.tail _ (.tail _ (.tail _ (.tail _ (.tail _ (.tail _ (.tail _ (.tail _ (hq))))))))))⟩⟩⟩⟩⟩⟩⟩⟩⟩)
  obtain ⟨own9, N8, m1, m2, m3, m4, m5, hr, ho⟩ := pt_hide N7 (by k_ne) (by k_ne) (by k_ne) (by k_ne) (by k_ne) (List.forall_mem_cons.mpr ⟨by k_ne, List.forall_mem_cons.mpr ⟨by k_ne, List.forall_mem_cons.mpr ⟨by k_ne,
    fun q hq => Nat.ne_of_lt (kst_ltOf (And.right (And.right (And.right (And.right (And.right (by assumption)))))) q hq)⟩⟩⟩)
  have hr1 := hr _ (.tail _ (.tail _ (.head _)))
  have hr2 : ∀ p ∈ own, p ∈ own9 := fun p hp => hr p (.tail _ (.tail _ (.tail _ hp)))
  have q1 := hr2 _ mb'
  have q2 := hr2 _ mg'
  have q3 := hr2 _ mgp
  have q4 := hr2 _ mce
  clear N9 N7
  repeat' ((first | ((fail_if_success (fail_if_success k_unfold)); (first | (with_reducible refine (?_ : wpAny _ _ _ _ _ _)) | (k_unfold; (try dsimp only)))) | ((fail_if_success (fail_if_success k_fold)); (first | (goal_has PySem.exec; (fail_if_success (fail_if_success (with_reducible show wpAny _ _ (exec _ _) _ _ _)))) | (goal_has PySem.Expr.BoolOp; (fail_if_success (fail_if_success (with_reducible show wpAny _ _ (eval (PySem.Expr.BoolOp _ _ _) _) _ _ _)))) | (goal_has PySem.Expr.Call; (fail_if_success (fail_if_success (with_reducible show wpAny _ _ (eval (PySem.Expr.Call _ _ _ _) _) _ _ _)))) | (goal_has PySem.Expr.Compare; (fail_if_success (fail_if_success (with_reducible show wpAny _ _ (eval (PySem.Expr.Compare _ _ _ _) _) _ _ _))))); (with_reducible refine Mine.wp_fold ?_); intro zqq zqe) | (goal_has PySem.Shared.mk; (with_reducible refine Mine.st_let ?_); intro zqs; goal_lacks PySem.Shared.mk) | ((ctx_mentions ite List.lookup); (rename Fr _ _ _ _ => zqF9); revert zqF9; (goal_has ite List.lookup); (with_reducible refine Mine.fr_let ?_); intro zqm; goal_lacks ite List.lookup; intro zqF) | ((ctx_mentions List.cons HAppend.hAppend List.append); (rename News _ _ _ _ => zqN9); (fail_if_success (fail_if_success (conv at zqN9 => arg 4; arg 2))); (with_reducible refine Mine.news_let zqN9 ?_); intro zql zqN; clear zqN9) | (k_end; wrow_close) | (goal_has PySem.Value.builtin; ((fail_if_success (fail_if_success (with_reducible show wpAny _ _ (call (Value.builtin "len") [Value.ref _]) _ _ _))); k_dflt (refine' kst_len (by k_asm) (by k_mem) (by exact IntsAre.length (by assumption)) (by omega) ?_; k_whole))) | (goal_has call; (fail_if_success (fail_if_success (with_reducible show wpAny _ _ (call (Value.ref _) _ _) _ _ _))); first | ((fail_if_success (fail_if_success (with_reducible show wpAny _ _ (call (Value.ref (404 : Nat)) [Value.ref _, Value.int _ _]) _ _ _))); k_dflt (refine' Mine.goto_ok (by k_asm) (by k_asm) (by k_asm) (by k_asm) (by k_asm) (by k_mem) (by k_ne) (by (intro zqo'; k_upd)) (by first | assumption | omega) (by ktr_room) (by ktr_units) ?_); intro zqh' zqtk' zqT1' zqpt' zqt' zqhpt1' zqhpt2' zqF' zqN'; (try dsimp only at zqN'); (try k_sweep); (try dsimp only); (try ((fail_if_success (fail_if_success k_fold)); (with_reducible refine Mine.wp_fold ?_); intro zqq zqe))) | ((fail_if_success (fail_if_success (with_reducible show wpAny _ _ (call (Value.ref (1011 : Nat)) [Value.int _ _, Value.int _ _, Value.int _ _]) _ _ _))); k_dflt (refine' Mine.tree_ok (by k_asm) (by k_asm) (by k_asm) (by k_asm) (by k_asm) (by ktr_room) (by ktr_units) ?_); intro zqt' zqtd' zqwn' zqwd' zqwi' zqo' zqT1' zqT2' zqch' zqea' zqla' zqh' zqtk' zqhd' zqlo' zql1 zql3 zql2 zqF' zqN'; (obtain ⟨lu1, lu2, lu3, lu4⟩ := Mine.lts_chain4 zql1 zql2); (try dsimp +zetaDelta only [List.map] at lu1 lu2 lu3 lu4); (try k_lt zql1); (try k_lt zql3); (try k_sweep); (try dsimp only); (try ((fail_if_success (fail_if_success k_fold)); (with_reducible refine Mine.wp_fold ?_); intro zqq zqe))) | ((fail_if_success (fail_if_success (with_reducible show wpAny _ _ (call (Value.ref (810 : Nat)) [Value.ref _, Value.none, Value.none]) _ _ _))); k_dflt (refine' Mine.editor_ok (by k_asm) (by k_asm) (by k_asm) (by k_asm) (by k_asm) (by ktr_room) (by ktr_units) ?_); intro zqx' zqed' zqT' zqlm' zqmm' zqud' zqmk' zqam' zqre' zqh' zqtk' zql1 zql2 zqF' zqN'; (have lu1 := Mine.lts_up zql1 zql2); (try dsimp +zetaDelta only [List.map] at lu1); (try k_lt zql1); (try k_sweep); (try dsimp only); (try ((fail_if_success (fail_if_success k_fold)); (with_reducible refine Mine.wp_fold ?_); intro zqq zqe))) | ((fail_if_success (fail_if_success (with_reducible show wpAny _ _ (call (Value.ref (578 : Nat)) _) _ _ _))); k_dflt (refine' Mine.bt_ok (by k_asm) (by k_asm) (by k_asm) (by k_asm) (by k_asm) (by ktr_room) (by ktr_units) ?_); intro zqx' zqh' zqtk' zqF' zqN'; (try k_sweep); (try dsimp only); (try ((fail_if_success (fail_if_success k_fold)); (with_reducible refine Mine.wp_fold ?_); intro zqq zqe))) | ((fail_if_success (fail_if_success (with_reducible show wpAny _ _ (call (Value.ref (1027 : Nat)) [Value.ref _, Value.int _ _]) _ _ _))); k_dflt (refine' Mine.draw_ok (by k_asm) (by k_asm) (by k_asm) (by k_asm) (by k_asm) (by first | exact rfl | assumption) (by (intro zqo'; k_upd)) (by (intro zqo₁ zqo'; k_upd)) (by l_ints) (by first | assumption | omega) (by first | decide | omega) (by first | decide | omega) (by ktr_room) (by ktr_units) ?_); intro zqr' zqt' zqh' zqtk' zqvs' zqns' zqk' zqtk2' zqn' zqnc' zqhr0' zqhr1' zqhi' zqhl' zqF' zqN'; (try dsimp only at zqN'); (try k_sweep); (try dsimp only); (try ((fail_if_success (fail_if_success k_fold)); (with_reducible refine Mine.wp_fold ?_); intro zqq zqe))) | (k_dflt (first | (refine' call_cls0 (by k_asm) (by k_asm) (by k_asm) (by k_is) (by k_is) ?_; k_whole; intro zqx zqd zqh zqF zqN zql1 zql2; (try ((have zqU := Mine.lts_up zql1 zql2); (dsimp +zetaDelta only [List.map] at zqU))); (try k_lt zql1); (try k_lt2 zql2); (try k_sweep)) | ((first | (refine' call_cls (by k_asm) (by k_asm) (by k_asm) (by k_is) (by k_is) (by k_is) ?_; k_whole; intro zqx zqd zqh zqF zqN zql1 zql2; (try ((have zqU := Mine.lts_up zql1 zql2); (dsimp +zetaDelta only [List.map] at zqU))); (try k_lt zql1); (try k_lt2 zql2); (try k_sweep)) | (refine' Mine.call_fn (by k_asm) (by k_is) ?_; k_whole) | (refine' call_meth (by k_asm) (by k_mem) ?_; k_whole) | refine wpAny_call ?_); (first | (refine' code_defL (by exact rfl) (by exact rfl) (by first | exact rfl | assumption) (by k_asm) (by k_asm) (by k_asm) (by k_asm) (by k_asm) (by k_is) (by k_is) (by decide) (by ktr_room) (by first | exact BindsTo.of_eq rfl | exact binds_K (by k_in) rfl (by k_is) rfl rfl rfl) (by exact locs rfl) (by exact rfl) (by exact rfl) (by exact rfl) ?_; k_whole; intro zqg zqL zqh zqtk zqFG zqF zqN zqB zqX zqT zqe zqA; (try k_lift zqB); (try ((fail_if_success (fail_if_success k_fold)); (with_reducible refine Mine.wp_fold ?_); intro zqq zqe))) | (refine' code_defCL (by exact rfl) (by exact rfl) (by exact rfl) (by k_asm) (by k_asm) (by k_asm) (by k_asm) (by k_asm) (by k_is) (by k_is) (by ktr_room) (by first | exact BindsTo.of_eq rfl | exact binds_K (by k_in) rfl (by k_is) rfl rfl rfl) (by exact rfl) (by decide +kernel) (by exact rfl) (by exact rfl) (by exact rfl) ?_; k_whole; intro zqg zqL zqh zqtk zqcells zqFG zqF zqN zqY zqB zqX zqT zql1 zqe zqA; (try k_lt zql1); k_cells zqY; (try simp only [List.cons_append, List.nil_append] at zqN); (try dsimp only); (try k_lift zqB); (try ((fail_if_success (fail_if_success k_fold)); (with_reducible refine Mine.wp_fold ?_); intro zqq zqe)))))))) | walk1 | (dsimp only; walk1) | ((with_reducible show wpAny _ _ _ _ _ _); dsimp only) | (leave1; walk_say "STEP leave1"; (first | (with_reducible refine (?_ : wpAny _ _ _ _ _ _)) | try dsimp only))))
  all_goals first
    | (rename Fr _ _ _ _ => F6
       rename News _ _ _ _ => N6
       refine' q_bool (ret _ _ _ _ _ _ _ _ _ _ ?hi ?hl F6 (fun p hp => N6 p (.tail _ (hr p hp)))) (beq_self_eq_true _)
       (case hi => assumption)
       (case hl => assumption))
    | (exfalso
       rename ¬ (_ = _) => h9
       refine h9 ?_
       (repeat' split) <;> omega)
  )) only [↓Mine.wrap_i]
end
/-- a text of code points -/
abbrev txt (l : List Nat) : Str := ⟨l.toArray⟩
/-- without the blanks at its end -/
def strp (l : List Nat) : List Nat := (l.reverse.dropWhile fun c => c == 32).reverse
theorem strp_snoc (l : List Nat) (c : Nat) : strp (l ++ [c]) = if c = 32 then strp l else l ++ [c] := by
  unfold strp
  rw [List.reverse_append, List.reverse_singleton, List.singleton_append, List.dropWhile_cons]
  by_cases h : c = 32
  · rw [if_pos (by simp [h]), if_pos h]
  · rw [if_neg (by simp [h]), if_neg h]; simp
theorem strp_blanks (l : List Nat) : ∀ k, strp (l ++ List.replicate k 32) = strp l
  | 0 => by simp
  | k + 1 => by
    rw [List.replicate_succ', ← List.append_assoc, strp_snoc, if_pos rfl, strp_blanks l k]
theorem strp_all (k : Nat) : strp (List.replicate k 32) = [] := by
  have := strp_blanks [] k
  simpa [strp] using this
theorem strp_take (l : List Nat) : strp l = l.take (l.length - (l.reverse.takeWhile fun c => c == 32).length) := by
  unfold strp
  have h := List.takeWhile_append_dropWhile (p := fun c : Nat => c == 32) (l := l.reverse)
  have h2 : l = (l.reverse.dropWhile fun c => c == 32).reverse ++ (l.reverse.takeWhile fun c => c == 32).reverse := by
    rw [← List.reverse_append, h, List.reverse_reverse]
  generalize (l.reverse.dropWhile fun c => c == 32).reverse = a at h2 ⊢
  generalize l.reverse.takeWhile (fun c => c == 32) = b at h2 ⊢
  subst h2
  simp
theorem rstrip_eq (l : List Nat) : Txt.rstripChars (txt l) (txt [32]) = txt (strp l) := by
  have hc : ((txt [32]).cps.contains : Nat → Bool) = fun c => c == 32 := by
    funext c
    rw [Bool.eq_iff_iff]
    simp [txt]
  have key : PySem.stripped (fun c => c == 32) false true (txt l) = txt (strp l) := by
    rw [strp_take]
    simp [PySem.stripped, stripLo, stripHi, PySem.Builtin.Str.strSub, txt, Str.length]
  unfold Txt.rstripChars Txt.stripBy
  rw [hc]
  split
  · rename_i h
    have h2 : stripHi (fun c => c == 32) true (txt l) (stripLo (fun c => c == 32) false (txt l)) = (txt l).length := by
      simpa [stripSame, stripLo] using h
    rw [← key]
    unfold PySem.stripped
    rw [h2]
    simp [stripLo, PySem.Builtin.Str.strSub, txt, Str.length]
  · exact key
theorem txt_upto (l : List Nat) {y : Int} (h : 0 ≤ y) : Txt.slice (txt l) none (some y) = txt (l.take y.toNat) := by
  have hl : ((txt l).cps.toList.length : Int) = (l.length : Int) := by simp
  by_cases h2 : y ≤ (l.length : Int)
  · have e := StrLaws.sliceText_to (x := txt l) (j := y) ⟨h, by rw [hl]; exact h2⟩
    refine Eq.trans e ?_
    simp
  · have e0 : Builtin.Str.strSliceIndices none (some y) 1 l.length = Builtin.Str.strSliceIndices none (some (l.length : Int)) 1 l.length := by
      have h0 : ¬ y < 0 := by omega
      have h1 : ¬ ((l.length : Int) < 0) := by omega
      simp only [Builtin.Str.strSliceIndices, h0, h1, show (1 : Int) > 0 by decide, if_false, if_true, Int.min_eq_right (show (l.length : Int) ≤ y by omega), Int.min_self]
    have e1 : Txt.slice (txt l) none (some y) = Txt.slice (txt l) none (some (l.length : Int)) := by
      unfold Txt.slice
      rw [show (txt l).length = l.length by simp [Str.length], e0]
    rw [e1]
    have e := StrLaws.sliceText_to (x := txt l) (j := (l.length : Int)) ⟨by omega, by rw [hl]; exact Int.le_refl _⟩
    refine Eq.trans e ?_
    rw [List.take_of_length_le (show l.length ≤ y.toNat by omega)]
    simp
theorem txt_but (l : List Nat) (c : Nat) : Txt.slice (txt (l ++ [c])) none (some (-1)) = txt l := by
  have e := StrLaws.sliceText_to_neg (x := txt (l ++ [c])) (j := -1) (by decide) (by simp [Str.length]; omega)
  refine Eq.trans e ?_
  have e2 : ((-1 : Int) + ((txt (l ++ [c])).length : Int) - 0).toNat = l.length := by simp [Str.length]; omega
  rw [e2]
  simp
theorem txt_last (l : List Nat) (c : Nat) : Txt.slice (txt (l ++ [c])) (some (-1)) none = txt [c] := by
  have e := StrLaws.sliceText_from_neg (x := txt (l ++ [c])) (i := -1) (by decide) (by simp [Str.length]; omega)
  refine Eq.trans e ?_
  have e1 : ((txt (l ++ [c])).cps.toList.length : Int) = (l.length : Int) + 1 := by simp
  have e2 : ((txt (l ++ [c])).length : Int) = (l.length : Int) + 1 := by simp [Str.length]
  rw [e1, e2, show ((-1 : Int) + ((l.length : Int) + 1)).toNat = l.length by omega, show ((l.length : Int) + 1 - (-1 + ((l.length : Int) + 1))).toNat = 1 by omega]
  simp
theorem txt_last_nil : Txt.slice (txt []) (some (-1)) none = txt [] := rfl
section
variable {prog : Program} {w : World} {A : Around} {E : Value → Shared → Prop} {s : Shared} {h₀ : Heap} {L : Addr} {m : Str → Option Value} {env : Env}
/-- a comprehension's source: a text -/
def StrSrc (prog : Program) (w : World) (A : Around) (h₀ : Heap) (L : Addr) (m : Str → Option Value) (env : Env) (elt : PySem.Expr) (x : Str) (scope : Scope) (cl : List (Str × Addr)) (Fin : Shared → List Value → List (Addr × Obj) → Prop) (xv : Value) (s₁ : Shared) : Prop :=
  ∃ y t news, xv = .str y t ∧ A.handled = none ∧ Fr h₀ L s₁.heap m ∧ News h₀ L s₁.heap news ∧ y.cps.size ≤ sizeLine ∧
    ∀ s₂ : Shared, (∃ h, s₂ = { s₁ with heap := h }) → LCg.CompRest prog w A h₀ L m env elt x scope cl s₂ (fun _ => True) (SignAt y) (Fin s₂) y.cps.size 0 [] news
theorem StrSrc.intro {elt : PySem.Expr} {x : Str} {scope : Scope} {cl : List (Str × Addr)} {Fin : Shared → List Value → List (Addr × Obj) → Prop} {y : Str} {t : Tok} {news : List (Addr × Obj)} {s₁ : Shared}
    (hh : A.handled = none) (F : Fr h₀ L s₁.heap m) (N : News h₀ L s₁.heap news) (hsz : y.cps.size ≤ sizeLine)
    (h : ∀ g, LCg.CompRest prog w A h₀ L m env elt x scope cl { s₁ with heap := g } (fun _ => True) (SignAt y) (Fin { s₁ with heap := g }) y.cps.size 0 [] news) : StrSrc prog w A h₀ L m env elt x scope cl Fin (.str y t) s₁ :=
  ⟨y, t, news, rfl, hh, F, N, hsz, fun _ ⟨g, e⟩ => e ▸ h g⟩
theorem striter_st {I : Addr} {y : Str} {t : Tok} {nm : String} : ∀ i (h h' : Heap) (o : Obj) (nw : List (Addr × Obj)), h.IsStrIter I nm y t i → h.get? I = some o → h'.get? I = some o → (∀ b o, h₀.get? b = some o → h'.get? b = some o) → News h₀ L h' nw → True → h'.IsStrIter I nm y t i :=
  fun i h h' o nw st e e' _ _ _ => by
    obtain ⟨o', q, r⟩ := st
    rw [e] at q
    cases q
    exact ⟨o, e', r⟩
theorem ListComp_S {elt iter : PySem.Expr} {x : Str} {px : Pos} {scope : Scope} {cl : List (Str × Addr)} {pos : Pos} {Q : Value → Shared → Prop} (F₀ : Fr h₀ L s.heap m)
    (hclos : closureFor scope env = pure cl) (hcell : ∀ y ∈ scope.names, y.2 ≠ .cell) (hkind : scope.kind = .function)
    (hnames : ∀ y ∈ scope.names, y.2 = .local → scope.names.lookup y.1 = some .local) (hx : scope.names.lookup x = some .local)
    (h : wpAny (model prog w) A (eval iter env) (StrSrc prog w A h₀ L m env elt x scope cl (fun s₂ => LCg.FinE h₀ L m s₂ Q)) E s)
    (hs : ∀ x, foldedSetIterable iter env x = pure x := by intro _; rfl) :
    wpAny (model prog w) A (eval (.ListComp elt [⟨.Name x px, iter, [], 0⟩] scope pos) env) Q E s := by
  rw [eval_ListComp]
  refine wpAny_comprehension_free (use := none) rfl hs hclos hkind hnames (wpAny_mono h (fun xv s₁ h₁ => ?_) fun _ _ e => e)
  obtain ⟨y, t, news, rfl, hh, F, N, hsz, R⟩ := h₁
  have key : ∀ (nm : String) (o : Obj), Walks prog w A s₁.heap.objs.size [s₁.heap.objs.size] [s₁.heap.objs.size] y.cps.size (SignAt y) (fun i h => h.IsStrIter s₁.heap.objs.size nm y t i) → (s₁.heap.push o).IsStrIter s₁.heap.objs.size nm y t 0 →
      wpAny (model prog w) A (newList []) (fun acc s₃ => wpAny (model prog w) A (newFunctionEnv scope env.globals cl [] env.qual none .none (some env)) (fun cenv s₄ =>
        codeAny (model prog w) A (.compStart (.ListComp elt [⟨.Name x px, iter, [], 0⟩] scope pos) 0 (.ref s₁.heap.objs.size) acc { cenv with scope := relabel scope env })
          (compPost (model prog w) A E none Q acc cenv.locals) s₄) E s₃) E { s₁ with heap := s₁.heap.push o } := by
    intro nm o W st0
    refine LCg.block_U W hsz (fun i h st => by obtain ⟨o, e, _⟩ := st; exact ⟨o, e⟩) striter_st hcell hkind hx st0 (fun b hb => ?_)
      (F.keeps fun _ _ e => Heap.get?_push_of_some _ e) (N.grown fun _ _ e => Heap.get?_push_of_some _ e) (Nat.ne_of_lt F.ns.lt) (next_is_new F) (fun p hp => Nat.ne_of_lt (Heap.lt_size (N p hp).1)) trivial (R _ ⟨_, rfl⟩) ?_
    · rw [List.mem_singleton.mp hb]
      show s₁.heap.objs.size < (s₁.heap.push _).objs.size
      rw [Heap.size_push]; exact Nat.lt_succ_self _
    · intro D C h tk m' ys news' F' N' o1 hn hC₀ hD₀ hCL hDL hCD offC fin
      refine ⟨m', hn, fun h'' hs'' => fin D h'' tk (F'.change hs'' hCL hC₀) (fun p hp => ?_) o1⟩
      refine ⟨hs''.extBut _ _ ?_ (N' p hp).1, (N' p hp).2⟩
      rcases List.mem_cons.mp hp with rfl | hp
      · exact Ne.symm hCD
      · exact offC p hp
  cases ha : y.cps.all (· < 128)
  · exact wpAny_pyIter_wide ha (key _ _ (Walks.strWide hh _ y t) ⟨_, Heap.get?_push_size _ rfl, rfl, rfl⟩)
  · exact wpAny_pyIter_ascii ha (key _ _ (Walks.strAscii hh _ y t) ⟨_, Heap.get?_push_size _ rfl, rfl, rfl⟩)
end
/-- a made cell -/
abbrev cellO (k : Int) (t u : Tok) (n : Nat) : Obj := { cls := .type "tuple", data := .seq #[.int k t, .int 0 u] n }
/-- a value that is a cell of one sign: the blank cell of the program's head, or one of the ledger -/
def CellIs (c : List (Addr × Obj)) (v : Value) (k : Nat) : Prop := ∃ r : Addr, v = .ref r ∧ ((r = (815 : Nat) ∧ k = 32) ∨ ∃ t u n, (r, cellO (k : Int) t u n) ∈ c)
theorem CellIs.sub {c c' : List (Addr × Obj)} {v : Value} {k : Nat} (h : CellIs c v k) (hs : ∀ p ∈ c, p ∈ c') : CellIs c' v k := by
  obtain ⟨r, e, h⟩ := h
  refine ⟨r, e, ?_⟩
  rcases h with h | ⟨t, u, n, h⟩
  · exact .inl h
  · exact .inr ⟨t, u, n, hs _ h⟩
theorem paired_imp {α β : Type} {F G : α → β → Prop} (hi : ∀ a b, F a b → G a b) : ∀ {l₁ : List α} {l₂ : List β}, Paired F l₁ l₂ → Paired G l₁ l₂
  | _, _, .nil => .nil
  | _, _, .cons h r => .cons (hi _ _ h) (paired_imp hi r)
theorem paired_app {α β : Type} {F : α → β → Prop} : ∀ {l₁ l₃ : List α} {l₂ l₄ : List β}, Paired F l₁ l₂ → Paired F l₃ l₄ → Paired F (l₁ ++ l₃) (l₂ ++ l₄)
  | _, _, _, _, .nil, h => h
  | _, _, _, _, .cons a r, h => .cons a (paired_app r h)
theorem paired_rep {α β : Type} {F : α → β → Prop} {a : α} {b : β} (h : F a b) : ∀ n, Paired F (List.replicate n a) (List.replicate n b)
  | 0 => .nil
  | n + 1 => .cons h (paired_rep h n)
theorem paired_get {α β : Type} {F : α → β → Prop} : ∀ {l₁ : List α} {l₂ : List β} {i : Nat} {a : α}, Paired F l₁ l₂ → l₁[i]? = some a → ∃ b, l₂[i]? = some b ∧ F a b
  | _, _, _, _, .nil, h => by simp at h
  | _, _, 0, _, .cons (b := b) h r, e => by
    have e2 : _ = _ := Option.some.inj (by simpa using e)
    exact ⟨b, rfl, e2 ▸ h⟩
  | _, _, i + 1, _, .cons h r, e => paired_get (i := i) r (by simpa using e)
section
variable {prog : Program} {w : World} {A : Around} {E : Value → Shared → Prop} {s : Shared} {h₀ : Heap} {L : Addr} {m : Str → Option Value} {news : List (Addr × Obj)}
/-- vs[:x], values of any kind -/
theorem val_upto {l : Addr} {vs : List Value} {k : Nat} {value slice : PySem.Expr} {vu : Value} {x : Int} {Q : Value → Shared → Prop} (F : Fr h₀ L s.heap m) (N : News h₀ L s.heap news) (hm : (l, listOf vs.toArray k) ∈ news) (pu : IsPart vu (some x)) (hx : 0 ≤ x) (hz : vs.length ≤ 24)
    (h : ∀ D h', Fr h₀ L h' m → News h₀ L h' ((D, listOf (List.toArray (vs.take x.toNat)) 0) :: news) → (∀ p ∈ news, p.1 < D) → Q (.ref D) { s with heap := h' })
    (hs : subscripted slice false (.ref l) (.ref s.heap.objs.size) = operate [.ref s.heap.objs.size, .ref l] (getItem (.ref l) (.ref s.heap.objs.size))) (ht : ∀ r, letTemporaryGo value (.ref l) r = pure ()) :
    wpAny (model prog w) A (subscriptTail value slice (.ref l) (.ref s.heap.objs.size)) Q E { s with heap := s.heap.push { cls := .type "slice", data := .fields #[.none, vu, .none] } } := by
  refine kmk_slice_lit F N (PySem.IsL.isList (n := k) (N _ hm).1) IsPart.none pu ?_ h hs ht (by rw [List.size_toArray, sizeLine_eq]; exact Nat.le_trans hz (by decide))
  have e : sliceBounds none (some x) none vs.toArray.size = (((0 : Nat) : Int), ((min x.toNat vs.toArray.size : Nat) : Int), 1) := by
    simp only [sliceBounds, Option.getD_none, show (1 : Int) > 0 by decide, if_true, if_neg (Int.not_lt.mpr hx)]
    rw [mm_bound hx]
    rfl
  rw [kmk_pick_nat _ e]
  show (vs.drop 0).take (min x.toNat vs.toArray.size - 0) = _
  rw [List.drop_zero, Nat.sub_zero, List.size_toArray, kmk_take_min]
/-- vs[x:], values of any kind -/
theorem val_from {l : Addr} {vs : List Value} {k : Nat} {value slice : PySem.Expr} {vl : Value} {x : Int} {Q : Value → Shared → Prop} (F : Fr h₀ L s.heap m) (N : News h₀ L s.heap news) (hm : (l, listOf vs.toArray k) ∈ news) (pl : IsPart vl (some x)) (hx : 0 ≤ x) (hz : vs.length ≤ 24)
    (h : ∀ D h', Fr h₀ L h' m → News h₀ L h' ((D, listOf (List.toArray (vs.drop x.toNat)) 0) :: news) → (∀ p ∈ news, p.1 < D) → Q (.ref D) { s with heap := h' })
    (hs : subscripted slice false (.ref l) (.ref s.heap.objs.size) = operate [.ref s.heap.objs.size, .ref l] (getItem (.ref l) (.ref s.heap.objs.size))) (ht : ∀ r, letTemporaryGo value (.ref l) r = pure ()) :
    wpAny (model prog w) A (subscriptTail value slice (.ref l) (.ref s.heap.objs.size)) Q E { s with heap := s.heap.push { cls := .type "slice", data := .fields #[vl, .none, .none] } } := by
  refine kmk_slice_lit F N (PySem.IsL.isList (n := k) (N _ hm).1) pl IsPart.none ?_ h hs ht (by rw [List.size_toArray, sizeLine_eq]; exact Nat.le_trans hz (by decide))
  have e : sliceBounds (some x) none none vs.toArray.size = (((min x.toNat vs.toArray.size : Nat) : Int), ((vs.toArray.size : Nat) : Int), 1) := by
    simp only [sliceBounds, Option.getD_none, show (1 : Int) > 0 by decide, if_true, if_neg (Int.not_lt.mpr hx)]
    rw [mm_bound hx]
  rw [kmk_pick_nat _ e]
  show (vs.drop (min x.toNat vs.toArray.size)).take (vs.toArray.size - min x.toNat vs.toArray.size) = _
  rw [List.size_toArray, kmk_drop_min, List.take_of_length_le (by rw [List.length_drop]; exact Nat.sub_le_sub_left (Nat.min_le_left _ _) _)]
/-- a + b, values of any kind -/
theorem val_add {a b : Addr} {vs us : List Value} {j k : Nat} {Q : Value → Shared → Prop} (F : Fr h₀ L s.heap m) (N : News h₀ L s.heap news) (ha : (a, listOf vs.toArray j) ∈ news) (hb : (b, listOf us.toArray k) ∈ news) (hz : vs.length + us.length ≤ 60)
    (h : ∀ D h', Fr h₀ L h' m → News h₀ L h' ((D, listOf (List.toArray (vs ++ us)) 0) :: news) → (∀ p ∈ news, p.1 < D) → Q (.ref D) { s with heap := h' }) :
    wpAny (model prog w) A (binaryOp .Add (.ref a) (.ref b)) Q E s :=
  kmk_add_lit F N (PySem.IsL.isList (n := j) (N _ ha).1) (PySem.IsL.isList (n := k) (N _ hb).1) rfl h (by show vs.length + us.length ≤ _; rw [sizeLine_eq]; exact Nat.le_trans hz (by decide))
/-- vs[k] by a place in bounds -/
theorem val_item {l : Addr} {vs : List Value} {c : Nat} {value slice : PySem.Expr} {k : Int} {u : Tok} {Q : Value → Shared → Prop} (N : News h₀ L s.heap news) (hm : (l, listOf vs.toArray c) ∈ news) (h0 : 0 ≤ k) (h1 : k < (vs.length : Int)) (hz : k ≤ 2 ^ 24)
    (h : ∀ x, vs[k.toNat]? = some x → Q x s)
    (hs : subscripted slice false (.ref l) (.int k u) = operate [.ref l, .int k u] (getItem (.ref l) (.int k u)) := by with_unfolding_all rfl) (hg : ∀ r, letTemporaryGo value (.ref l) r = pure () := by intro _; with_unfolding_all rfl) :
    wpAny (model prog w) A (subscriptTail value slice (.ref l) (.int k u)) Q E s := by
  have hk : k.toNat < vs.length := by omega
  exact item_list (PySem.IsL.isList (n := c) (N _ hm).1) h0 (by omega) (by simp [List.getElem?_eq_getElem hk]) (h _ (List.getElem?_eq_getElem hk)) hs hg
end
/-- a row of cells that show these signs -/
def RowIs (c : List (Addr × Obj)) (y : Value) (l : List Nat) : Prop := ∃ (r : Addr) (ws : List Value) (n : Nat), y = .ref r ∧ (r, listOf ws.toArray n) ∈ c ∧ Paired (CellIs c) ws l ∧ l.length ≤ 24
theorem RowIs.sub {c c' : List (Addr × Obj)} {y : Value} {l : List Nat} (h : RowIs c y l) (hs : ∀ p ∈ c, p ∈ c') : RowIs c' y l := by
  obtain ⟨r, ws, n, e, hm, hp, hl⟩ := h
  exact ⟨r, ws, n, e, hs _ hm, paired_imp (fun _ _ h => h.sub hs) hp, hl⟩
theorem set_last {α : Type} {v : α} : ∀ {l : List α} {n : Nat}, l.length = n + 1 → l.set n v = l.take n ++ [v]
  | [x], 0, _ => rfl
  | x :: y :: r, 0, h => by simp at h
  | x :: r, n + 1, h => by
    rw [List.set_cons_succ, List.take_succ_cons, List.cons_append, set_last (l := r) (n := n) (by simpa using h)]
theorem paired_const {α β : Type} {F : α → β → Prop} {b : β} : ∀ {l : List α}, (∀ y ∈ l, F y b) → Paired F l (List.replicate l.length b)
  | [], _ => .nil
  | y :: r, h => .cons (h y (.head _)) (paired_const fun z hz => h z (.tail _ hz))
/-- the signs that the echo row shows -/
def echoL (wd : Int) (msg : List Nat) : List Nat := msg.take wd.toNat ++ List.replicate (wd.toNat - (msg.take wd.toNat).length) 32
/-- all rows -/
def rowsL (wd ht : Int) (msg : List Nat) : List (List Nat) := List.replicate (ht - 1).toNat (List.replicate wd.toNat 32) ++ [echoL wd msg]
theorem rows_made {c : List (Addr × Obj)} {ys zs : List Value} {wd ht : Int} {msg : List Nat} {R : Addr} {ws : List Value} {n : Nat} (hw1 : 2 ≤ wd) (hw2 : wd ≤ 9) (hh1 : 2 ≤ ht) (hyl : ys.length = ht.toNat)
    (hy : ∀ y ∈ ys, ∃ r : Addr, y = .ref r ∧ (r, listOf (List.toArray (List.replicate wd.toNat (Value.ref (815 : Nat)))) 0) ∈ c) (hR : (R, listOf ws.toArray n) ∈ c) (hz : Paired (CellIs c) zs (msg.take wd.toNat)) (ew : ws = zs ++ (List.replicate wd.toNat (Value.ref (815 : Nat))).drop zs.length) :
    Paired (RowIs c) (ys.set (ht - 1).toNat (.ref R)) (rowsL wd ht msg) := by
  have hb : CellIs c (Value.ref (815 : Nat)) 32 := ⟨_, rfl, .inl ⟨rfl, rfl⟩⟩
  rw [set_last (n := (ht - 1).toNat) (by omega)]
  unfold rowsL
  refine paired_app ?_ (.cons ⟨R, ws, n, rfl, hR, ?_, ?_⟩ .nil)
  · have h1 : (ys.take (ht - 1).toNat).length = (ht - 1).toNat := by rw [List.length_take]; omega
    have h2 := paired_const (F := RowIs c) (b := List.replicate wd.toNat 32) (l := ys.take (ht - 1).toNat) (fun y hm => by
      obtain ⟨r, e, hr⟩ := hy y (List.mem_of_mem_take hm)
      exact ⟨r, _, 0, e, hr, paired_rep hb _, by rw [List.length_replicate]; omega⟩)
    rw [h1] at h2
    exact h2
  · subst ew
    unfold echoL
    refine paired_app hz ?_
    rw [List.drop_replicate, hz.length]
    exact paired_rep hb _
  · unfold echoL
    rw [List.length_append, List.length_take, List.length_replicate]
    omega
theorem blank_at {P : Params} {h₀ : Heap} (X : (Mine.fr.heap_1_1 P).In h₀) : ∃ t u n, h₀.get? (815 : Nat) = some (cellO 32 t u n) := ⟨_, _, _, X (815 : Nat) _ rfl⟩
/-- a heap without one of its objects -/
def less (h : Heap) (a : Addr) : Heap := h.update a fun o => { o with data := .freed }
theorem less_self (h : Heap) (a : Addr) : (less h a).get? a = none := by
  unfold less Heap.update Heap.get?
  obtain ⟨objs, l⟩ := h
  simp only [Array.getElem?_modify, if_true]
  cases objs[a]? <;> rfl
theorem less_ne (h : Heap) {a b : Addr} (hne : b ≠ a) : (less h a).get? b = h.get? b := by
  unfold less Heap.update Heap.get?
  obtain ⟨objs, l⟩ := h
  simp only [Array.getElem?_modify, if_neg (Ne.symm hne)]
theorem less_sub {h : Heap} {a b : Addr} {o : Obj} (e : (less h a).get? b = some o) : h.get? b = some o := by
  by_cases hb : b = a
  · rw [hb, less_self] at e; cases e
  · rw [less_ne h hb] at e; exact e
theorem less_none {h : Heap} {a b : Addr} (e : h.get? b = none) : (less h a).get? b = none := by
  by_cases hb : b = a
  · rw [hb]; exact less_self h a
  · rw [less_ne h hb]; exact e
theorem less_size (h : Heap) (a : Addr) : (less h a).objs.size = h.objs.size := by
  unfold less Heap.update
  obtain ⟨objs, l⟩ := h
  simp
section
variable {h₀ h : Heap} {L a : Addr} {m : Str → Option Value} {news : List (Addr × Obj)} {o : Obj}
theorem fr_less (F : Fr h₀ L h m) (a : Addr) : Fr (less h₀ a) L h m := ⟨F.ns, fun b o e => F.keep b o (less_sub e), by rw [less_size]; exact F.above⟩
theorem fr_more (F : Fr (less h₀ a) L h m) (e : h₀.get? a = some o) (e' : h.get? a = some o) : Fr h₀ L h m :=
  ⟨F.ns, fun b o' q => by
    by_cases hb : b = a
    · subst hb; rw [e] at q; cases q; exact e'
    · exact F.keep b o' (by rw [less_ne h₀ hb]; exact q), by rw [← less_size h₀ a]; exact F.above⟩
theorem news_less (N : News h₀ L h news) (a : Addr) : News (less h₀ a) L h news := fun p hp => ⟨(N p hp).1, (N p hp).2.1, less_none (N p hp).2.2⟩
theorem news_more (N : News (less h₀ a) L h news) (off : ∀ p ∈ news, p.1 ≠ a) : News h₀ L h news := fun p hp => ⟨(N p hp).1, (N p hp).2.1, by rw [← less_ne h₀ (off p hp)]; exact (N p hp).2.2⟩
theorem news_with (F : Fr h₀ L h m) (N : News h₀ L h news) (e : h₀.get? a = some o) : News (less h₀ a) L h ((a, o) :: news) := fun p hp => by
  rcases List.mem_cons.mp hp with rfl | hp
  · exact ⟨F.keep _ _ e, fun q => absurd (Heap.lt_size e) (Nat.not_lt.mpr ((show a = L from q) ▸ F.above)), less_self h₀ _⟩
  · exact news_less N a p hp
theorem news_off (N : News h₀ L h news) (e : h₀.get? a = some o) : ∀ p ∈ news, p.1 ≠ a := fun p hp q => by
  have := (N p hp).2.2
  rw [q, e] at this
  cases this
end
section
variable {prog : Program} {w : World} {A : Around} {E : Value → Shared → Prop} {s : Shared} {h₀ : Heap} {L : Addr} {m : Str → Option Value} {env : Env}
/-- what the comprehension over a row of cells asks -/
def CellSrc (prog : Program) (w : World) (A : Around) (h₀ : Heap) (L : Addr) (m : Str → Option Value) (env : Env) (elt : PySem.Expr) (x : Str) (scope : Scope) (cl : List (Str × Addr)) (Q : Value → Shared → Prop) (v : Value) (s₁ : Shared) : Prop :=
  ∃ (ax : Addr) (vs : List Value) (nn : Nat) (codes : List Nat) (news : List (Addr × Obj)), v = .ref ax ∧ A.handled = none ∧ Fr h₀ L s₁.heap m ∧ News h₀ L s₁.heap news ∧ (ax, listOf vs.toArray nn) ∈ news ∧ codes.length ≤ 24 ∧ Paired (CellIs news) vs codes ∧
    (∀ (k : Nat) t I oI C oC D m₂ h tk ys (E' : Value → Shared → Prop), k ∈ codes → LCg.NsObj oC m₂ → m₂ x = some (.int (k : Int) t) → Fr h₀ L h m → News h₀ L h ((I, oI) :: (C, oC) :: (D, LCg.lst ys) :: news) →
      wpAny (model prog w) A (eval elt (compEnvC scope cl C env)) (fun y s₂ => (∃ u, y = .str (txt [k]) u) ∧ ∃ h' tk', s₂ = { s₁ with heap := h', toks := tk' } ∧ Fr h₀ L h' m ∧ News h₀ L h' ((I, oI) :: (C, oC) :: (D, LCg.lst ys) :: news)) E' { s₁ with heap := h, toks := tk }) ∧
    ∀ D zs h tk, StrsAre zs (codes.map fun k => txt [k]) → Fr h₀ L h m → News h₀ L h ((D, LCg.lst zs) :: news) → (∀ p ∈ news, p.1 ≠ D) → Q (.ref D) { s₁ with heap := h, toks := tk }
theorem strs_snoc {y : Str} {t : Tok} : ∀ {vs : List Value} {ys : List Str}, StrsAre vs ys → StrsAre (vs ++ [.str y t]) (ys ++ [y])
  | _, _, .nil => .cons y t .nil
  | _, _, .cons z u r => .cons z u (strs_snoc r)
theorem cells_comp {elt iter : PySem.Expr} {x x₂ : Str} {px px₂ tp : Pos} {tk} {scope : Scope} {cl : List (Str × Addr)} {pos : Pos} {oE : Obj} {tE uE nE} {Q : Value → Shared → Prop} (F₀ : Fr h₀ L s.heap m) (hE : h₀.get? (815 : Nat) = some oE) (hoE : oE = cellO 32 tE uE nE)
    (hclos : closureFor scope env = pure cl) (hcell : ∀ y ∈ scope.names, y.2 ≠ .cell) (hkind : scope.kind = .function)
    (hnames : ∀ y ∈ scope.names, y.2 = .local → scope.names.lookup y.1 = some .local) (hx : scope.names.lookup x = some .local) (hx₂ : scope.names.lookup x₂ = some .local) (hxx : x ≠ x₂)
    (h : wpAny (model prog w) A (eval iter env) (CellSrc prog w A h₀ L m env elt x scope cl Q) E s)
    (hs : ∀ x, foldedSetIterable iter env x = pure x := by intro _; rfl) :
    wpAny (model prog w) A (eval (.ListComp elt [⟨.Tuple [.Name x px, .Name x₂ px₂] tk tp, iter, [], 0⟩] scope pos) env) Q E s := by
  refine LCp.ListComp_P (h₀ := less h₀ (815 : Nat)) (fr_less F₀ _) hclos hcell hkind hnames hx hx₂ hxx (wpAny_mono h (fun v s₁ hq => ?_) fun _ _ e => e) hs
  obtain ⟨ax, vs, nn, codes, news, rfl, hh, F, N, hm, hlen, hp, turn, fin⟩ := hq
  have hlv : vs.length = codes.length := hp.length
  have offE := news_off N hE
  refine LCp.SrcLP.ledger (news := ((815 : Nat), oE) :: news) hh (fr_less F _) (news_with F N hE) (.tail _ hm) (by rw [List.size_toArray, sizeLine_eq]; omega) fun g => ?_
  have key : ∀ (j i : Nat) (ys : List Value), i + j = vs.length → StrsAre ys ((codes.take i).map fun k => txt [k]) →
      LCp.CompRestP prog w A (less h₀ (815 : Nat)) L m env elt x x₂ scope cl { s₁ with heap := g } (LCg.SrcAt (less h₀ (815 : Nat)) ax vs.toArray) (fun i v => vs.toArray[i]? = some v) (LCg.FinE (less h₀ (815 : Nat)) L m { s₁ with heap := g } Q) j i ys (((815 : Nat), oE) :: news) := by
    intro j
    induction j with
    | zero =>
      intro i ys hij hys
      refine LCp.CompRestP.zero ?_
      intro D h tk F' N' o1
      have e1 : codes.take i = codes := List.take_of_length_le (by omega)
      rw [e1] at hys
      have hDE : (815 : Nat) ≠ D := o1.1
      have hEh : h.get? (815 : Nat) = some oE := (N' _ (.tail _ (.head _))).1
      refine fin D ys h tk hys (fr_more F' hE hEh) (news_more (fun p hp => N' p ?_) fun p hp => ?_) (off1_ne o1.2)
      · rcases List.mem_cons.mp hp with rfl | hp
        · exact .head _
        · exact .tail _ (.tail _ hp)
      · rcases List.mem_cons.mp hp with rfl | hp
        · exact Ne.symm hDE
        · exact offE p hp
    | succ j ih =>
      intro i ys hij hys
      refine LCp.CompRestP.succ ?_
      intro v hv
      have hv' : vs[i]? = some v := by simpa using hv
      obtain ⟨k, hk, r, rfl, hc⟩ := paired_get hp hv'
      have tale : ∀ (t : Tok) (I oI C oC D m₂ h tk) (E' : Value → Shared → Prop), LCg.NsObj oC m₂ → m₂ x = some (.int (k : Int) t) → Fr (less h₀ (815 : Nat)) L h m →
          News (less h₀ (815 : Nat)) L h ((I, oI) :: (C, oC) :: (D, LCg.lst ys) :: ((815 : Nat), oE) :: news) → LCg.Off3 I C D (((815 : Nat), oE) :: news) →
          wpAny (model prog w) A (eval elt (compEnvC scope cl C env)) (LCg.CompEnd (less h₀ (815 : Nat)) L m { s₁ with heap := h, toks := tk } I oI C oC D (LCg.lst ys) (LCg.SrcAt (less h₀ (815 : Nat)) ax vs.toArray)
            (fun y news' => LCp.CompRestP prog w A (less h₀ (815 : Nat)) L m env elt x x₂ scope cl { s₁ with heap := g } (LCg.SrcAt (less h₀ (815 : Nat)) ax vs.toArray) (fun i v => vs.toArray[i]? = some v) (LCg.FinE (less h₀ (815 : Nat)) L m { s₁ with heap := g } Q) j (i + 1) (ys ++ [y]) news')) E' { s₁ with heap := h, toks := tk } := by
        intro t I oI C oC D m₂ h tk E' hC hx' F' N' off
        have hEh : h.get? (815 : Nat) = some oE := (N' _ (.tail _ (.tail _ (.tail _ (.head _))))).1
        have hne := off.1
        have N1 : News h₀ L h ((I, oI) :: (C, oC) :: (D, LCg.lst ys) :: news) := news_more (fun p hp => N' p (by
            rcases List.mem_cons.mp hp with rfl | hp
            · exact .head _
            · rcases List.mem_cons.mp hp with rfl | hp
              · exact .tail _ (.head _)
              · rcases List.mem_cons.mp hp with rfl | hp
                · exact .tail _ (.tail _ (.head _))
                · exact .tail _ (.tail _ (.tail _ (.tail _ hp))))) fun p hp => by
            rcases List.mem_cons.mp hp with rfl | hp
            · exact Ne.symm hne.1
            · rcases List.mem_cons.mp hp with rfl | hp
              · exact Ne.symm hne.2.1
              · rcases List.mem_cons.mp hp with rfl | hp
                · exact Ne.symm hne.2.2
                · exact offE p hp
        refine wpAny_mono (turn k t I oI C oC D m₂ h tk ys E' (List.mem_of_getElem? hk) hC hx' (fr_more F' hE hEh) N1) (fun y s₂ hq => ?_) fun _ _ e => e
        obtain ⟨⟨u, rfl⟩, h', tk', rfl, F2, N2⟩ := hq
        refine ⟨h', tk', ((815 : Nat), oE) :: news, rfl, fr_less F2 _, fun p hp => ?_, off, .inr ⟨_, .tail _ hm, rfl, _, rfl⟩, ih (i + 1) _ (by omega) ?_⟩
        · have N3 := news_with F2 N2 hE
          rcases List.mem_cons.mp hp with rfl | hp
          · exact N3 _ (.tail _ (.head _))
          · rcases List.mem_cons.mp hp with rfl | hp
            · exact N3 _ (.tail _ (.tail _ (.head _)))
            · rcases List.mem_cons.mp hp with rfl | hp
              · exact N3 _ (.tail _ (.tail _ (.tail _ (.head _))))
              · rcases List.mem_cons.mp hp with rfl | hp
                · exact N3 _ (.head _)
                · exact N3 _ (.tail _ (.tail _ (.tail _ (.tail _ hp))))
        · rw [get_split hk, List.map_append]
          exact strs_snoc hys
      rcases hc with ⟨rfl, rfl⟩ | ⟨t, u, n, hmc⟩
      · subst hoE
        exact ⟨(815 : Nat), _, .int 32 tE, .int 0 uE, nE, rfl, .head _, rfl, rfl, fun I oI C oC D m₂ h tk E' hC h1 h2 F' N' off ne => tale tE I oI C oC D m₂ h tk E' hC h1 F' N' off⟩
      · exact ⟨r, _, .int (k : Int) t, .int 0 u, n, rfl, .tail _ hmc, rfl, rfl, fun I oI C oC D m₂ h tk E' hC h1 h2 F' N' off ne => tale t I oI C oC D m₂ h tk E' hC h1 F' N' off⟩
  have e : vs.toArray.size = vs.length := List.size_toArray ..
  rw [e]
  exact key vs.length 0 [] (by omega) .nil
end
section
variable {prog : Program} {w : World} {A : Around} {E : Value → Shared → Prop} {s : Shared} {h₀ : Heap} {L : Addr} {m : Str → Option Value} {news : List (Addr × Obj)}
/-- ns[:x] of a list anywhere -/
theorem base_upto {l : Addr} {vs : List Value} {ns : List Int} {value slice : PySem.Expr} {vu : Value} {x : Int} {Q : Value → Shared → Prop} (F : Fr h₀ L s.heap m) (N : News h₀ L s.heap news) (hl : s.heap.IsList l vs.toArray) (pu : IsPart vu (some x)) (hx : 0 ≤ x) (hi : IntsAre vs ns) (hz : ns.length ≤ 63)
    (h : ∀ D h' ws zs, zs = ns.take x.toNat → zs.length ≤ x.toNat → IntsAre ws zs → Fr h₀ L h' m → News h₀ L h' ((D, listOf (List.toArray ws) 0) :: news) → (∀ p ∈ news, p.1 < D) → Q (.ref D) { s with heap := h' })
    (hs : subscripted slice false (.ref l) (.ref s.heap.objs.size) = operate [.ref s.heap.objs.size, .ref l] (getItem (.ref l) (.ref s.heap.objs.size))) (ht : ∀ r, letTemporaryGo value (.ref l) r = pure ()) :
    wpAny (model prog w) A (subscriptTail value slice (.ref l) (.ref s.heap.objs.size)) Q E { s with heap := s.heap.push { cls := .type "slice", data := .fields #[.none, vu, .none] } } :=
  kmk_slice_ints F N hl IsPart.none pu hi (kmk_upto hi hx) rfl (fun D ws h' F' N' l1 hw _ _ => h D h' ws _ rfl (by rw [List.length_take]; omega) hw F' N' l1) hs ht (by rw [List.size_toArray, hi.length, sizeLine_eq]; omega)
end
section
variable {prog : Program} {w : World} {p : Program} {loose : List Str} {mean : ExcName → Option Value} {mg mb : Str → Option Value} {dp un : Nat} {gd : Option (List Code)} {cn : Str} {cnm : List (Str × NameKind)} {cg cc : Bool} {cm : List (Str × Const)} {a : Addr} {ccd : Value} {cl : List (Str × Addr)} {outer : List Env} {A₀ : Around} {base h₀ : Heap} {L : Addr} {m : Str → Option Value} {s : Shared} {Q E : Value → Shared → Prop}

theorem deck_core {sc : Addr} {vs : List Value} {ns : List Int} {own : List (Addr × Obj)}
    (B : Below A₀ base outer h₀) (F : Fr h₀ L s.heap m) (X : (Mine.fr.heap_1_1 w.params).In h₀) (N : News h₀ L s.heap own) (TT : Top p loose mean mg mb h₀)
    (hsc : h₀.IsList sc vs.toArray) (hi : IntsAre vs ns) (hlen : ns.length ≤ 63)
    (hd : dp + 10 < recursionLimit) (hu : un + 300 < cLine)
    (ret : ∀ d c S tS tk n nc vs' ns' h' tk', IntsAre vs' ns' → ns'.length ≤ 24 → @Ne Nat d c → (∀ p ∈ own, p.1 ≠ d) → (∀ p ∈ own, p.1 ≠ c) → Fr h₀ L h' m →
      News h₀ L h' ((d, deckO c S tS 0 tk n) :: (c, listOf (List.toArray vs') nc) :: own) → Q (.ref d) { s with heap := h', toks := tk' }) :
    wpAny (model prog w) (ktrTop dp un gd cn ⟨.function, cnm, cg, cc, cm⟩ L a ccd cl outer) (call (.ref (1020 : Nat)) [.ref sc]) Q E s := by
  refine Mine.unwrap ?_
  simp (disch := k_dflt (
  have _h : PySem.Challenge.rw_on0075_01 = PySem.Challenge.rw_on0075_01 ∧ Mine.fr.heap_1_1 = Mine.fr.heap_1_1 := by (k_fill; exact ⟨rfl, rfl⟩)
  clear _h
  w_top off
  repeat' ((fail_if_success (with_reducible show LCg.CompSrc _ _ _ _ _ _ _ _ _ _ _ _ _ _)); (fail_if_success (with_reducible show LCt.CompSrcT _ _ _ _ _ _ _ _ _ _ _ _ _ _ _)); ((first | ((fail_if_success (fail_if_success k_unfold)); (first | (with_reducible refine (?_ : wpAny _ _ _ _ _ _)) | (k_unfold; (try dsimp only)))) | ((fail_if_success (fail_if_success k_fold)); (first | (goal_has PySem.exec; (fail_if_success (fail_if_success (with_reducible show wpAny _ _ (exec _ _) _ _ _)))) | (goal_has PySem.Expr.BoolOp; (fail_if_success (fail_if_success (with_reducible show wpAny _ _ (eval (PySem.Expr.BoolOp _ _ _) _) _ _ _)))) | (goal_has PySem.Expr.Call; (fail_if_success (fail_if_success (with_reducible show wpAny _ _ (eval (PySem.Expr.Call _ _ _ _) _) _ _ _)))) | (goal_has PySem.Expr.Compare; (fail_if_success (fail_if_success (with_reducible show wpAny _ _ (eval (PySem.Expr.Compare _ _ _ _) _) _ _ _))))); (with_reducible refine Mine.wp_fold ?_); intro zqq zqe) | (goal_has PySem.Shared.mk; (with_reducible refine Mine.st_let ?_); intro zqs; goal_lacks PySem.Shared.mk) | ((ctx_mentions ite List.lookup); (rename Fr _ _ _ _ => zqF9); revert zqF9; (goal_has ite List.lookup); (with_reducible refine Mine.fr_let ?_); intro zqm; goal_lacks ite List.lookup; intro zqF) | ((ctx_mentions List.cons HAppend.hAppend List.append); (rename News _ _ _ _ => zqN9); (fail_if_success (fail_if_success (conv at zqN9 => arg 4; arg 2))); (with_reducible refine Mine.news_let zqN9 ?_); intro zql zqN; clear zqN9) | (k_end; wrow_close) | (goal_has PySem.Expr.ListComp; ((fail_if_success (fail_if_success (with_reducible show wpAny _ _ (eval (PySem.Expr.ListComp (PySem.Expr.Name _ _) _ _ _) _) _ _ _))); k_dflt (refine LCt.ListComp_T (F₀ := by k_asm) (by with_unfolding_all rfl) (by decide) (by rfl) (by decide) (by rfl) ?_))) | (goal_has PySem.Stmt.Assign; ((fail_if_success (fail_if_success (with_reducible show wpAny _ _ (exec (PySem.Stmt.Assign _ (PySem.Expr.ListComp (PySem.Expr.BinOp _ _ _ _) _ _ _) _) _) _ _ _))); k_dflt (refine LCg.Assign_ListComp_U (F₀ := by k_asm) (by rfl) (by with_unfolding_all rfl) (by rfl) (by decide) (by rfl) (by decide) (by rfl) (by rfl) (by rfl) ?_))) | (goal_has subscriptTail; ((fail_if_success (fail_if_success (with_reducible show wpAny _ _ (subscriptTail _ (PySem.Expr.Slice none _ none _) (Value.ref _) (Value.ref _)) _ _ _))); k_dflt (refine' Mine.base_upto (x := 24) (by k_asm) (by k_asm) (by exact Heap.IsList.at (by assumption) fun o e => Fr.keep (by assumption) _ _ (Fr.keep (by assumption) _ _ e)) (by exact IsPart.int _ _) (by decide) (by assumption) (by assumption) ?_ (by with_unfolding_all rfl) (by kmk_pure)); intro zqD' zqh' zqws' zqzs' zqhzs' zqhzl' zqhzi' zqF' zqN' zql1; (try k_lt zql1); (try k_sweep))) | (goal_has PySem.Value.builtin; ((fail_if_success (fail_if_success (with_reducible show wpAny _ _ (call (Value.builtin "len") [Value.ref _]) _ _ _))); k_dflt (refine' kst_len (by k_asm) (by k_mem) (by exact IntsAre.length (by assumption)) (by omega) ?_; k_whole))) | (goal_has call; (fail_if_success (fail_if_success (with_reducible show wpAny _ _ (call (Value.ref _) _ _) _ _ _))); first | (k_dflt (first | (refine' call_cls0 (by k_asm) (by k_asm) (by k_asm) (by k_is) (by k_is) ?_; k_whole; intro zqx zqd zqh zqF zqN zql1 zql2; (try ((have zqU := Mine.lts_up zql1 zql2); (dsimp +zetaDelta only [List.map] at zqU))); (try k_lt zql1); (try k_lt2 zql2); (try k_sweep)) | ((first | (refine' call_cls (by k_asm) (by k_asm) (by k_asm) (by k_is) (by k_is) (by k_is) ?_; k_whole; intro zqx zqd zqh zqF zqN zql1 zql2; (try ((have zqU := Mine.lts_up zql1 zql2); (dsimp +zetaDelta only [List.map] at zqU))); (try k_lt zql1); (try k_lt2 zql2); (try k_sweep)) | (refine' Mine.call_fn (by k_asm) (by k_is) ?_; k_whole) | (refine' call_meth (by k_asm) (by k_mem) ?_; k_whole) | refine wpAny_call ?_); (first | (refine' code_defL (by exact rfl) (by exact rfl) (by first | exact rfl | assumption) (by k_asm) (by k_asm) (by k_asm) (by k_asm) (by k_asm) (by k_is) (by k_is) (by decide) (by ktr_room) (by first | exact BindsTo.of_eq rfl | exact binds_K (by k_in) rfl (by k_is) rfl rfl rfl) (by exact locs rfl) (by exact rfl) (by exact rfl) (by exact rfl) ?_; k_whole; intro zqg zqL zqh zqtk zqFG zqF zqN zqB zqX zqT zqe zqA; (try k_lift zqB); (try ((fail_if_success (fail_if_success k_fold)); (with_reducible refine Mine.wp_fold ?_); intro zqq zqe))) | (refine' code_defCL (by exact rfl) (by exact rfl) (by exact rfl) (by k_asm) (by k_asm) (by k_asm) (by k_asm) (by k_asm) (by k_is) (by k_is) (by ktr_room) (by first | exact BindsTo.of_eq rfl | exact binds_K (by k_in) rfl (by k_is) rfl rfl rfl) (by exact rfl) (by decide +kernel) (by exact rfl) (by exact rfl) (by exact rfl) ?_; k_whole; intro zqg zqL zqh zqtk zqcells zqFG zqF zqN zqY zqB zqX zqT zql1 zqe zqA; (try k_lt zql1); k_cells zqY; (try simp only [List.cons_append, List.nil_append] at zqN); (try dsimp only); (try k_lift zqB); (try ((fail_if_success (fail_if_success k_fold)); (with_reducible refine Mine.wp_fold ?_); intro zqq zqe)))))))) | walk1 | (dsimp only; walk1) | ((with_reducible show wpAny _ _ _ _ _ _); dsimp only) | (leave1; walk_say "STEP leave1"; (first | (with_reducible refine (?_ : wpAny _ _ _ _ _ _)) | try dsimp only)))))
  all_goals first | exact (Value.none : Value) | exact (Str.ofString "" : Str) | exact ((0 : Nat) : Addr) | skip
  rename Fr _ _ _ _ => F9
  rename News _ _ _ _ => N9
  rename IntsAre _ (_ : List Int) => hi9
  rename List.length _ ≤ Int.toNat 24 => hl9
  have hv9 := hi9.length
  refine' LCg.CompSrc.ledger rfl F9 N9 (.head _) ?sz ?_
  case sz => (rw [List.size_toArray, sizeLine_eq]; omega)
  intro g9
  refine' comp_led (σ := Unit) (fun _ => _) (fun i ys _ => ∃ zs : List Int, IntsAre ys zs) () ⟨[], .nil⟩ ?turn ?fin
  case turn =>
    intro i ys c v I oI C oC D m₂ h tk E' hin hyl9 hj hP hC hx F' N' off ne
    try dsimp only at *
    obtain ⟨t9, hv'⟩ := hi9.get i _ (List.getElem?_eq_getElem (by simpa [hv9] using hin))
    have ev : v = _ := Option.some.inj (hP.symm.trans (by simpa using hv'))
    subst ev
    obtain ⟨z9, hz9⟩ := hj
    repeat' ((first | ((fail_if_success (fail_if_success k_unfold)); (first | (with_reducible refine (?_ : wpAny _ _ _ _ _ _)) | (k_unfold; (try dsimp only)))) | ((fail_if_success (fail_if_success k_fold)); (first | (goal_has PySem.exec; (fail_if_success (fail_if_success (with_reducible show wpAny _ _ (exec _ _) _ _ _)))) | (goal_has PySem.Expr.BoolOp; (fail_if_success (fail_if_success (with_reducible show wpAny _ _ (eval (PySem.Expr.BoolOp _ _ _) _) _ _ _)))) | (goal_has PySem.Expr.Call; (fail_if_success (fail_if_success (with_reducible show wpAny _ _ (eval (PySem.Expr.Call _ _ _ _) _) _ _ _)))) | (goal_has PySem.Expr.Compare; (fail_if_success (fail_if_success (with_reducible show wpAny _ _ (eval (PySem.Expr.Compare _ _ _ _) _) _ _ _))))); (with_reducible refine Mine.wp_fold ?_); intro zqq zqe) | (goal_has PySem.Shared.mk; (with_reducible refine Mine.st_let ?_); intro zqs; goal_lacks PySem.Shared.mk) | ((ctx_mentions ite List.lookup); (rename Fr _ _ _ _ => zqF9); revert zqF9; (goal_has ite List.lookup); (with_reducible refine Mine.fr_let ?_); intro zqm; goal_lacks ite List.lookup; intro zqF) | ((ctx_mentions List.cons HAppend.hAppend List.append); (rename News _ _ _ _ => zqN9); (fail_if_success (fail_if_success (conv at zqN9 => arg 4; arg 2))); (with_reducible refine Mine.news_let zqN9 ?_); intro zql zqN; clear zqN9) | (k_end; wrow_close) | (goal_has PySem.Expr.ListComp; ((fail_if_success (fail_if_success (with_reducible show wpAny _ _ (eval (PySem.Expr.ListComp (PySem.Expr.Name _ _) _ _ _) _) _ _ _))); k_dflt (refine LCt.ListComp_T (F₀ := by k_asm) (by with_unfolding_all rfl) (by decide) (by rfl) (by decide) (by rfl) ?_))) | (goal_has PySem.Stmt.Assign; ((fail_if_success (fail_if_success (with_reducible show wpAny _ _ (exec (PySem.Stmt.Assign _ (PySem.Expr.ListComp (PySem.Expr.BinOp _ _ _ _) _ _ _) _) _) _ _ _))); k_dflt (refine LCg.Assign_ListComp_U (F₀ := by k_asm) (by rfl) (by with_unfolding_all rfl) (by rfl) (by decide) (by rfl) (by decide) (by rfl) (by rfl) (by rfl) ?_))) | (goal_has subscriptTail; ((fail_if_success (fail_if_success (with_reducible show wpAny _ _ (subscriptTail _ (PySem.Expr.Slice none _ none _) (Value.ref _) (Value.ref _)) _ _ _))); k_dflt (refine' Mine.base_upto (x := 24) (by k_asm) (by k_asm) (by exact Heap.IsList.at (by assumption) fun o e => Fr.keep (by assumption) _ _ (Fr.keep (by assumption) _ _ e)) (by exact IsPart.int _ _) (by decide) (by assumption) (by assumption) ?_ (by with_unfolding_all rfl) (by kmk_pure)); intro zqD' zqh' zqws' zqzs' zqhzs' zqhzl' zqhzi' zqF' zqN' zql1; (try k_lt zql1); (try k_sweep))) | (goal_has PySem.Value.builtin; ((fail_if_success (fail_if_success (with_reducible show wpAny _ _ (call (Value.builtin "len") [Value.ref _]) _ _ _))); k_dflt (refine' kst_len (by k_asm) (by k_mem) (by exact IntsAre.length (by assumption)) (by omega) ?_; k_whole))) | (goal_has call; (fail_if_success (fail_if_success (with_reducible show wpAny _ _ (call (Value.ref _) _ _) _ _ _))); first | (k_dflt (first | (refine' call_cls0 (by k_asm) (by k_asm) (by k_asm) (by k_is) (by k_is) ?_; k_whole; intro zqx zqd zqh zqF zqN zql1 zql2; (try ((have zqU := Mine.lts_up zql1 zql2); (dsimp +zetaDelta only [List.map] at zqU))); (try k_lt zql1); (try k_lt2 zql2); (try k_sweep)) | ((first | (refine' call_cls (by k_asm) (by k_asm) (by k_asm) (by k_is) (by k_is) (by k_is) ?_; k_whole; intro zqx zqd zqh zqF zqN zql1 zql2; (try ((have zqU := Mine.lts_up zql1 zql2); (dsimp +zetaDelta only [List.map] at zqU))); (try k_lt zql1); (try k_lt2 zql2); (try k_sweep)) | (refine' Mine.call_fn (by k_asm) (by k_is) ?_; k_whole) | (refine' call_meth (by k_asm) (by k_mem) ?_; k_whole) | refine wpAny_call ?_); (first | (refine' code_defL (by exact rfl) (by exact rfl) (by first | exact rfl | assumption) (by k_asm) (by k_asm) (by k_asm) (by k_asm) (by k_asm) (by k_is) (by k_is) (by decide) (by ktr_room) (by first | exact BindsTo.of_eq rfl | exact binds_K (by k_in) rfl (by k_is) rfl rfl rfl) (by exact locs rfl) (by exact rfl) (by exact rfl) (by exact rfl) ?_; k_whole; intro zqg zqL zqh zqtk zqFG zqF zqN zqB zqX zqT zqe zqA; (try k_lift zqB); (try ((fail_if_success (fail_if_success k_fold)); (with_reducible refine Mine.wp_fold ?_); intro zqq zqe))) | (refine' code_defCL (by exact rfl) (by exact rfl) (by exact rfl) (by k_asm) (by k_asm) (by k_asm) (by k_asm) (by k_asm) (by k_is) (by k_is) (by ktr_room) (by first | exact BindsTo.of_eq rfl | exact binds_K (by k_in) rfl (by k_is) rfl rfl rfl) (by exact rfl) (by decide +kernel) (by exact rfl) (by exact rfl) (by exact rfl) ?_; k_whole; intro zqg zqL zqh zqtk zqcells zqFG zqF zqN zqY zqB zqX zqT zql1 zqe zqA; (try k_lt zql1); k_cells zqY; (try simp only [List.cons_append, List.nil_append] at zqN); (try dsimp only); (try k_lift zqB); (try ((fail_if_success (fail_if_success k_fold)); (with_reducible refine Mine.wp_fold ?_); intro zqq zqe)))))))) | walk1 | (dsimp only; walk1) | ((with_reducible show wpAny _ _ _ _ _ _); dsimp only) | (leave1; walk_say "STEP leave1"; (first | (with_reducible refine (?_ : wpAny _ _ _ _ _ _)) | try dsimp only))))
    (rename Fr _ _ _ _ => F8; rename News _ _ _ _ => N8; exact ⟨_, _, (), rfl, F8, N8, off, .inr ⟨_, .head _, rfl, _, rfl⟩, z9 ++ [_], ints_app hz9 (.cons _ _ .nil)⟩)
  case fin =>
    intro ys c hyl9 hj D' h' tk' F' N' off1'
    try dsimp only at *
    obtain ⟨z9, hz9⟩ := hj
    have hzl9 := hz9.length
    repeat' ((fail_if_success (with_reducible show LCg.CompSrc _ _ _ _ _ _ _ _ _ _ _ _ _ _)); (fail_if_success (with_reducible show LCt.CompSrcT _ _ _ _ _ _ _ _ _ _ _ _ _ _ _)); ((first | ((fail_if_success (fail_if_success k_unfold)); (first | (with_reducible refine (?_ : wpAny _ _ _ _ _ _)) | (k_unfold; (try dsimp only)))) | ((fail_if_success (fail_if_success k_fold)); (first | (goal_has PySem.exec; (fail_if_success (fail_if_success (with_reducible show wpAny _ _ (exec _ _) _ _ _)))) | (goal_has PySem.Expr.BoolOp; (fail_if_success (fail_if_success (with_reducible show wpAny _ _ (eval (PySem.Expr.BoolOp _ _ _) _) _ _ _)))) | (goal_has PySem.Expr.Call; (fail_if_success (fail_if_success (with_reducible show wpAny _ _ (eval (PySem.Expr.Call _ _ _ _) _) _ _ _)))) | (goal_has PySem.Expr.Compare; (fail_if_success (fail_if_success (with_reducible show wpAny _ _ (eval (PySem.Expr.Compare _ _ _ _) _) _ _ _))))); (with_reducible refine Mine.wp_fold ?_); intro zqq zqe) | (goal_has PySem.Shared.mk; (with_reducible refine Mine.st_let ?_); intro zqs; goal_lacks PySem.Shared.mk) | ((ctx_mentions ite List.lookup); (rename Fr _ _ _ _ => zqF9); revert zqF9; (goal_has ite List.lookup); (with_reducible refine Mine.fr_let ?_); intro zqm; goal_lacks ite List.lookup; intro zqF) | ((ctx_mentions List.cons HAppend.hAppend List.append); (rename News _ _ _ _ => zqN9); (fail_if_success (fail_if_success (conv at zqN9 => arg 4; arg 2))); (with_reducible refine Mine.news_let zqN9 ?_); intro zql zqN; clear zqN9) | (k_end; wrow_close) | (goal_has PySem.Expr.ListComp; ((fail_if_success (fail_if_success (with_reducible show wpAny _ _ (eval (PySem.Expr.ListComp (PySem.Expr.Name _ _) _ _ _) _) _ _ _))); k_dflt (refine LCt.ListComp_T (F₀ := by k_asm) (by with_unfolding_all rfl) (by decide) (by rfl) (by decide) (by rfl) ?_))) | (goal_has PySem.Stmt.Assign; ((fail_if_success (fail_if_success (with_reducible show wpAny _ _ (exec (PySem.Stmt.Assign _ (PySem.Expr.ListComp (PySem.Expr.BinOp _ _ _ _) _ _ _) _) _) _ _ _))); k_dflt (refine LCg.Assign_ListComp_U (F₀ := by k_asm) (by rfl) (by with_unfolding_all rfl) (by rfl) (by decide) (by rfl) (by decide) (by rfl) (by rfl) (by rfl) ?_))) | (goal_has subscriptTail; ((fail_if_success (fail_if_success (with_reducible show wpAny _ _ (subscriptTail _ (PySem.Expr.Slice none _ none _) (Value.ref _) (Value.ref _)) _ _ _))); k_dflt (refine' Mine.base_upto (x := 24) (by k_asm) (by k_asm) (by exact Heap.IsList.at (by assumption) fun o e => Fr.keep (by assumption) _ _ (Fr.keep (by assumption) _ _ e)) (by exact IsPart.int _ _) (by decide) (by assumption) (by assumption) ?_ (by with_unfolding_all rfl) (by kmk_pure)); intro zqD' zqh' zqws' zqzs' zqhzs' zqhzl' zqhzi' zqF' zqN' zql1; (try k_lt zql1); (try k_sweep))) | (goal_has PySem.Value.builtin; ((fail_if_success (fail_if_success (with_reducible show wpAny _ _ (call (Value.builtin "len") [Value.ref _]) _ _ _))); k_dflt (refine' kst_len (by k_asm) (by k_mem) (by exact IntsAre.length (by assumption)) (by omega) ?_; k_whole))) | (goal_has call; (fail_if_success (fail_if_success (with_reducible show wpAny _ _ (call (Value.ref _) _ _) _ _ _))); first | (k_dflt (first | (refine' call_cls0 (by k_asm) (by k_asm) (by k_asm) (by k_is) (by k_is) ?_; k_whole; intro zqx zqd zqh zqF zqN zql1 zql2; (try ((have zqU := Mine.lts_up zql1 zql2); (dsimp +zetaDelta only [List.map] at zqU))); (try k_lt zql1); (try k_lt2 zql2); (try k_sweep)) | ((first | (refine' call_cls (by k_asm) (by k_asm) (by k_asm) (by k_is) (by k_is) (by k_is) ?_; k_whole; intro zqx zqd zqh zqF zqN zql1 zql2; (try ((have zqU := Mine.lts_up zql1 zql2); (dsimp +zetaDelta only [List.map] at zqU))); (try k_lt zql1); (try k_lt2 zql2); (try k_sweep)) | (refine' Mine.call_fn (by k_asm) (by k_is) ?_; k_whole) | (refine' call_meth (by k_asm) (by k_mem) ?_; k_whole) | refine wpAny_call ?_); (first | (refine' code_defL (by exact rfl) (by exact rfl) (by first | exact rfl | assumption) (by k_asm) (by k_asm) (by k_asm) (by k_asm) (by k_asm) (by k_is) (by k_is) (by decide) (by ktr_room) (by first | exact BindsTo.of_eq rfl | exact binds_K (by k_in) rfl (by k_is) rfl rfl rfl) (by exact locs rfl) (by exact rfl) (by exact rfl) (by exact rfl) ?_; k_whole; intro zqg zqL zqh zqtk zqFG zqF zqN zqB zqX zqT zqe zqA; (try k_lift zqB); (try ((fail_if_success (fail_if_success k_fold)); (with_reducible refine Mine.wp_fold ?_); intro zqq zqe))) | (refine' code_defCL (by exact rfl) (by exact rfl) (by exact rfl) (by k_asm) (by k_asm) (by k_asm) (by k_asm) (by k_asm) (by k_is) (by k_is) (by ktr_room) (by first | exact BindsTo.of_eq rfl | exact binds_K (by k_in) rfl (by k_is) rfl rfl rfl) (by exact rfl) (by decide +kernel) (by exact rfl) (by exact rfl) (by exact rfl) ?_; k_whole; intro zqg zqL zqh zqtk zqcells zqFG zqF zqN zqY zqB zqX zqT zql1 zqe zqA; (try k_lt zql1); k_cells zqY; (try simp only [List.cons_append, List.nil_append] at zqN); (try dsimp only); (try k_lift zqB); (try ((fail_if_success (fail_if_success k_fold)); (with_reducible refine Mine.wp_fold ?_); intro zqq zqe)))))))) | walk1 | (dsimp only; walk1) | ((with_reducible show wpAny _ _ _ _ _ _); dsimp only) | (leave1; walk_say "STEP leave1"; (first | (with_reducible refine (?_ : wpAny _ _ _ _ _ _)) | try dsimp only)))))
    rename Fr _ _ _ _ => F8
    rename News _ _ _ _ => N8
    have hy8 : ys.length ≤ 24 := by
      rw [hyl9, List.size_toArray, hv9]; exact hl9
    refine' LCt.CompSrcT.ledger rfl F8 N8 (.head _) ?sz ?_
    case sz => (rw [List.size_toArray, sizeLine_eq]; omega)
    intro g8
    refine' compT_led (σ := Unit) (fun _ => _) (fun i xs _ => ∃ zs : List Int, IntsAre xs zs ∧ zs.length ≤ i) () ⟨[], .nil, Nat.le_refl _⟩ ?turn ?fin
    case turn =>
      intro i xs c v I oI C oC D m₂ h tk E' hin hj hP hC hx F' N' off ne
      try dsimp only at *
      obtain ⟨t9, hv'⟩ := hz9.get i _ (List.getElem?_eq_getElem (by simpa [hzl9] using hin))
      have ev : v = _ := Option.some.inj (hP.symm.trans (by simpa using hv'))
      subst ev
      obtain ⟨x9, hx9, hx8⟩ := hj
      repeat' ((first | ((fail_if_success (fail_if_success k_unfold)); (first | (with_reducible refine (?_ : wpAny _ _ _ _ _ _)) | (k_unfold; (try dsimp only)))) | ((fail_if_success (fail_if_success k_fold)); (first | (goal_has PySem.exec; (fail_if_success (fail_if_success (with_reducible show wpAny _ _ (exec _ _) _ _ _)))) | (goal_has PySem.Expr.BoolOp; (fail_if_success (fail_if_success (with_reducible show wpAny _ _ (eval (PySem.Expr.BoolOp _ _ _) _) _ _ _)))) | (goal_has PySem.Expr.Call; (fail_if_success (fail_if_success (with_reducible show wpAny _ _ (eval (PySem.Expr.Call _ _ _ _) _) _ _ _)))) | (goal_has PySem.Expr.Compare; (fail_if_success (fail_if_success (with_reducible show wpAny _ _ (eval (PySem.Expr.Compare _ _ _ _) _) _ _ _))))); (with_reducible refine Mine.wp_fold ?_); intro zqq zqe) | (goal_has PySem.Shared.mk; (with_reducible refine Mine.st_let ?_); intro zqs; goal_lacks PySem.Shared.mk) | ((ctx_mentions ite List.lookup); (rename Fr _ _ _ _ => zqF9); revert zqF9; (goal_has ite List.lookup); (with_reducible refine Mine.fr_let ?_); intro zqm; goal_lacks ite List.lookup; intro zqF) | ((ctx_mentions List.cons HAppend.hAppend List.append); (rename News _ _ _ _ => zqN9); (fail_if_success (fail_if_success (conv at zqN9 => arg 4; arg 2))); (with_reducible refine Mine.news_let zqN9 ?_); intro zql zqN; clear zqN9) | (k_end; wrow_close) | (goal_has PySem.Expr.ListComp; ((fail_if_success (fail_if_success (with_reducible show wpAny _ _ (eval (PySem.Expr.ListComp (PySem.Expr.Name _ _) _ _ _) _) _ _ _))); k_dflt (refine LCt.ListComp_T (F₀ := by k_asm) (by with_unfolding_all rfl) (by decide) (by rfl) (by decide) (by rfl) ?_))) | (goal_has PySem.Stmt.Assign; ((fail_if_success (fail_if_success (with_reducible show wpAny _ _ (exec (PySem.Stmt.Assign _ (PySem.Expr.ListComp (PySem.Expr.BinOp _ _ _ _) _ _ _) _) _) _ _ _))); k_dflt (refine LCg.Assign_ListComp_U (F₀ := by k_asm) (by rfl) (by with_unfolding_all rfl) (by rfl) (by decide) (by rfl) (by decide) (by rfl) (by rfl) (by rfl) ?_))) | (goal_has subscriptTail; ((fail_if_success (fail_if_success (with_reducible show wpAny _ _ (subscriptTail _ (PySem.Expr.Slice none _ none _) (Value.ref _) (Value.ref _)) _ _ _))); k_dflt (refine' Mine.base_upto (x := 24) (by k_asm) (by k_asm) (by exact Heap.IsList.at (by assumption) fun o e => Fr.keep (by assumption) _ _ (Fr.keep (by assumption) _ _ e)) (by exact IsPart.int _ _) (by decide) (by assumption) (by assumption) ?_ (by with_unfolding_all rfl) (by kmk_pure)); intro zqD' zqh' zqws' zqzs' zqhzs' zqhzl' zqhzi' zqF' zqN' zql1; (try k_lt zql1); (try k_sweep))) | (goal_has PySem.Value.builtin; ((fail_if_success (fail_if_success (with_reducible show wpAny _ _ (call (Value.builtin "len") [Value.ref _]) _ _ _))); k_dflt (refine' kst_len (by k_asm) (by k_mem) (by exact IntsAre.length (by assumption)) (by omega) ?_; k_whole))) | (goal_has call; (fail_if_success (fail_if_success (with_reducible show wpAny _ _ (call (Value.ref _) _ _) _ _ _))); first | (k_dflt (first | (refine' call_cls0 (by k_asm) (by k_asm) (by k_asm) (by k_is) (by k_is) ?_; k_whole; intro zqx zqd zqh zqF zqN zql1 zql2; (try ((have zqU := Mine.lts_up zql1 zql2); (dsimp +zetaDelta only [List.map] at zqU))); (try k_lt zql1); (try k_lt2 zql2); (try k_sweep)) | ((first | (refine' call_cls (by k_asm) (by k_asm) (by k_asm) (by k_is) (by k_is) (by k_is) ?_; k_whole; intro zqx zqd zqh zqF zqN zql1 zql2; (try ((have zqU := Mine.lts_up zql1 zql2); (dsimp +zetaDelta only [List.map] at zqU))); (try k_lt zql1); (try k_lt2 zql2); (try k_sweep)) | (refine' Mine.call_fn (by k_asm) (by k_is) ?_; k_whole) | (refine' call_meth (by k_asm) (by k_mem) ?_; k_whole) | refine wpAny_call ?_); (first | (refine' code_defL (by exact rfl) (by exact rfl) (by first | exact rfl | assumption) (by k_asm) (by k_asm) (by k_asm) (by k_asm) (by k_asm) (by k_is) (by k_is) (by decide) (by ktr_room) (by first | exact BindsTo.of_eq rfl | exact binds_K (by k_in) rfl (by k_is) rfl rfl rfl) (by exact locs rfl) (by exact rfl) (by exact rfl) (by exact rfl) ?_; k_whole; intro zqg zqL zqh zqtk zqFG zqF zqN zqB zqX zqT zqe zqA; (try k_lift zqB); (try ((fail_if_success (fail_if_success k_fold)); (with_reducible refine Mine.wp_fold ?_); intro zqq zqe))) | (refine' code_defCL (by exact rfl) (by exact rfl) (by exact rfl) (by k_asm) (by k_asm) (by k_asm) (by k_asm) (by k_asm) (by k_is) (by k_is) (by ktr_room) (by first | exact BindsTo.of_eq rfl | exact binds_K (by k_in) rfl (by k_is) rfl rfl rfl) (by exact rfl) (by decide +kernel) (by exact rfl) (by exact rfl) (by exact rfl) ?_; k_whole; intro zqg zqL zqh zqtk zqcells zqFG zqF zqN zqY zqB zqX zqT zql1 zqe zqA; (try k_lt zql1); k_cells zqY; (try simp only [List.cons_append, List.nil_append] at zqN); (try dsimp only); (try k_lift zqB); (try ((fail_if_success (fail_if_success k_fold)); (with_reducible refine Mine.wp_fold ?_); intro zqq zqe)))))))) | walk1 | (dsimp only; walk1) | ((with_reducible show wpAny _ _ _ _ _ _); dsimp only) | (leave1; walk_say "STEP leave1"; (first | (with_reducible refine (?_ : wpAny _ _ _ _ _ _)) | try dsimp only))))
      · (rename Fr _ _ _ _ => F8; rename News _ _ _ _ => N8; exact ⟨_, _, (), rfl, F8, N8, off, .inr ⟨_, .head _, rfl, _, rfl⟩, x9 ++ [_], ints_app hx9 (.cons _ _ .nil), by rw [List.length_append]; exact Nat.succ_le_succ hx8⟩)
      · (rename Fr _ _ _ _ => F8; rename News _ _ _ _ => N8; exact ⟨_, _, (), rfl, F8, N8, off, .inr ⟨_, .head _, rfl, _, rfl⟩, x9, hx9, Nat.le_succ_of_le hx8⟩)
    case fin =>
      intro xs c hj D2 h2 tk2 F' N' off2
      try dsimp only at *
      obtain ⟨x9, hx9, hx8⟩ := hj
      repeat' ((first | ((fail_if_success (fail_if_success k_unfold)); (first | (with_reducible refine (?_ : wpAny _ _ _ _ _ _)) | (k_unfold; (try dsimp only)))) | ((fail_if_success (fail_if_success k_fold)); (first | (goal_has PySem.exec; (fail_if_success (fail_if_success (with_reducible show wpAny _ _ (exec _ _) _ _ _)))) | (goal_has PySem.Expr.BoolOp; (fail_if_success (fail_if_success (with_reducible show wpAny _ _ (eval (PySem.Expr.BoolOp _ _ _) _) _ _ _)))) | (goal_has PySem.Expr.Call; (fail_if_success (fail_if_success (with_reducible show wpAny _ _ (eval (PySem.Expr.Call _ _ _ _) _) _ _ _)))) | (goal_has PySem.Expr.Compare; (fail_if_success (fail_if_success (with_reducible show wpAny _ _ (eval (PySem.Expr.Compare _ _ _ _) _) _ _ _))))); (with_reducible refine Mine.wp_fold ?_); intro zqq zqe) | (goal_has PySem.Shared.mk; (with_reducible refine Mine.st_let ?_); intro zqs; goal_lacks PySem.Shared.mk) | ((ctx_mentions ite List.lookup); (rename Fr _ _ _ _ => zqF9); revert zqF9; (goal_has ite List.lookup); (with_reducible refine Mine.fr_let ?_); intro zqm; goal_lacks ite List.lookup; intro zqF) | ((ctx_mentions List.cons HAppend.hAppend List.append); (rename News _ _ _ _ => zqN9); (fail_if_success (fail_if_success (conv at zqN9 => arg 4; arg 2))); (with_reducible refine Mine.news_let zqN9 ?_); intro zql zqN; clear zqN9) | (k_end; wrow_close) | (goal_has PySem.Expr.ListComp; ((fail_if_success (fail_if_success (with_reducible show wpAny _ _ (eval (PySem.Expr.ListComp (PySem.Expr.Name _ _) _ _ _) _) _ _ _))); k_dflt (refine LCt.ListComp_T (F₀ := by k_asm) (by with_unfolding_all rfl) (by decide) (by rfl) (by decide) (by rfl) ?_))) | (goal_has PySem.Stmt.Assign; ((fail_if_success (fail_if_success (with_reducible show wpAny _ _ (exec (PySem.Stmt.Assign _ (PySem.Expr.ListComp (PySem.Expr.BinOp _ _ _ _) _ _ _) _) _) _ _ _))); k_dflt (refine LCg.Assign_ListComp_U (F₀ := by k_asm) (by rfl) (by with_unfolding_all rfl) (by rfl) (by decide) (by rfl) (by decide) (by rfl) (by rfl) (by rfl) ?_))) | (goal_has subscriptTail; ((fail_if_success (fail_if_success (with_reducible show wpAny _ _ (subscriptTail _ (PySem.Expr.Slice none _ none _) (Value.ref _) (Value.ref _)) _ _ _))); k_dflt (refine' Mine.base_upto (x := 24) (by k_asm) (by k_asm) (by exact Heap.IsList.at (by assumption) fun o e => Fr.keep (by assumption) _ _ (Fr.keep (by assumption) _ _ e)) (by exact IsPart.int _ _) (by decide) (by assumption) (by assumption) ?_ (by with_unfolding_all rfl) (by kmk_pure)); intro zqD' zqh' zqws' zqzs' zqhzs' zqhzl' zqhzi' zqF' zqN' zql1; (try k_lt zql1); (try k_sweep))) | (goal_has PySem.Value.builtin; ((fail_if_success (fail_if_success (with_reducible show wpAny _ _ (call (Value.builtin "len") [Value.ref _]) _ _ _))); k_dflt (refine' kst_len (by k_asm) (by k_mem) (by exact IntsAre.length (by assumption)) (by omega) ?_; k_whole))) | (goal_has call; (fail_if_success (fail_if_success (with_reducible show wpAny _ _ (call (Value.ref _) _ _) _ _ _))); first | (k_dflt (first | (refine' call_cls0 (by k_asm) (by k_asm) (by k_asm) (by k_is) (by k_is) ?_; k_whole; intro zqx zqd zqh zqF zqN zql1 zql2; (try ((have zqU := Mine.lts_up zql1 zql2); (dsimp +zetaDelta only [List.map] at zqU))); (try k_lt zql1); (try k_lt2 zql2); (try k_sweep)) | ((first | (refine' call_cls (by k_asm) (by k_asm) (by k_asm) (by k_is) (by k_is) (by k_is) ?_; k_whole; intro zqx zqd zqh zqF zqN zql1 zql2; (try ((have zqU := Mine.lts_up zql1 zql2); (dsimp +zetaDelta only [List.map] at zqU))); (try k_lt zql1); (try k_lt2 zql2); (try k_sweep)) | (refine' Mine.call_fn (by k_asm) (by k_is) ?_; k_whole) | (refine' call_meth (by k_asm) (by k_mem) ?_; k_whole) | refine wpAny_call ?_); (first | (refine' code_defL (by exact rfl) (by exact rfl) (by first | exact rfl | assumption) (by k_asm) (by k_asm) (by k_asm) (by k_asm) (by k_asm) (by k_is) (by k_is) (by decide) (by ktr_room) (by first | exact BindsTo.of_eq rfl | exact binds_K (by k_in) rfl (by k_is) rfl rfl rfl) (by exact locs rfl) (by exact rfl) (by exact rfl) (by exact rfl) ?_; k_whole; intro zqg zqL zqh zqtk zqFG zqF zqN zqB zqX zqT zqe zqA; (try k_lift zqB); (try ((fail_if_success (fail_if_success k_fold)); (with_reducible refine Mine.wp_fold ?_); intro zqq zqe))) | (refine' code_defCL (by exact rfl) (by exact rfl) (by exact rfl) (by k_asm) (by k_asm) (by k_asm) (by k_asm) (by k_asm) (by k_is) (by k_is) (by ktr_room) (by first | exact BindsTo.of_eq rfl | exact binds_K (by k_in) rfl (by k_is) rfl rfl rfl) (by exact rfl) (by decide +kernel) (by exact rfl) (by exact rfl) (by exact rfl) ?_; k_whole; intro zqg zqL zqh zqtk zqcells zqFG zqF zqN zqY zqB zqX zqT zql1 zqe zqA; (try k_lt zql1); k_cells zqY; (try simp only [List.cons_append, List.nil_append] at zqN); (try dsimp only); (try k_lift zqB); (try ((fail_if_success (fail_if_success k_fold)); (with_reducible refine Mine.wp_fold ?_); intro zqq zqe)))))))) | walk1 | (dsimp only; walk1) | ((with_reducible show wpAny _ _ _ _ _ _); dsimp only) | (leave1; walk_say "STEP leave1"; (first | (with_reducible refine (?_ : wpAny _ _ _ _ _ _)) | try dsimp only))))
      rename Fr _ _ _ _ => F7
      rename News _ _ _ _ => N7
      exact ret _ D2 _ _ _ 0 xs.length xs x9 _ _ hx9 (Nat.le_trans hx8 (by rw [List.size_toArray]; exact hy8)) (by k_ne) (fun q hq => Nat.ne_of_lt (kst_ltOf (And.right (And.right (And.right (by assumption)))) q hq)) (off1_ne off2.2.2) F7
        (cb_drop N7 (List.forall_mem_cons.mpr ⟨.head _, List.forall_mem_cons.mpr ⟨.tail _ (.head _), fun q hq => .tail _ (.tail _ (.tail _ (.tail _ hq)))⟩⟩))
  )) only [↓Mine.wrap_i]
end
section
variable {prog : Program} {w : World} {p : Program} {loose : List Str} {mean : ExcName → Option Value} {mg mb : Str → Option Value} {dp un : Nat} {gd : Option (List Code)} {cn : Str} {cnm : List (Str × NameKind)} {cg cc : Bool} {cm : List (Str × Const)} {a : Addr} {ccd : Value} {cl : List (Str × Addr)} {outer : List Env} {A₀ : Around} {base h₀ : Heap} {L : Addr} {m : Str → Option Value} {s : Shared} {Q E : Value → Shared → Prop}

theorem many_core {sc : Addr} {vs : List Value} {ns : List Int} {t1 t2 : Tok} {own : List (Addr × Obj)}
    (B : Below A₀ base outer h₀) (F : Fr h₀ L s.heap m) (X : (Mine.fr.heap_1_1 w.params).In h₀) (N : News h₀ L s.heap own) (TT : Top p loose mean mg mb h₀)
    (hsc : h₀.IsList sc vs.toArray) (hi : IntsAre vs ns) (hlen : ns.length ≤ 63)
    (hd : dp + 10 < recursionLimit) (hu : un + 300 < cLine)
    (ret : ∀ r t h' tk', 2 ≤ r → r ≤ 5 → Fr h₀ L h' m → News h₀ L h' own → Q (.int r t) { s with heap := h', toks := tk' }) :
    wpAny (model prog w) (ktrTop dp un gd cn ⟨.function, cnm, cg, cc, cm⟩ L a ccd cl outer) (call (.ref (1032 : Nat)) [.ref sc, .int 2 t1, .int 5 t2]) Q E s := by
  refine Mine.unwrap ?_
  simp (disch := k_dflt (
  have _h : PySem.Challenge.rw_on0075_01 = PySem.Challenge.rw_on0075_01 ∧ Mine.fr.heap_1_1 = Mine.fr.heap_1_1 := by (k_fill; exact ⟨rfl, rfl⟩)
  clear _h
  w_top off
  repeat' ((fail_if_success (with_reducible show LCg.CompSrc _ _ _ _ _ _ _ _ _ _ _ _ _ _)); ((first | ((fail_if_success (fail_if_success k_unfold)); (first | (with_reducible refine (?_ : wpAny _ _ _ _ _ _)) | (k_unfold; (try dsimp only)))) | ((fail_if_success (fail_if_success k_fold)); (first | (goal_has PySem.exec; (fail_if_success (fail_if_success (with_reducible show wpAny _ _ (exec _ _) _ _ _)))) | (goal_has PySem.Expr.BoolOp; (fail_if_success (fail_if_success (with_reducible show wpAny _ _ (eval (PySem.Expr.BoolOp _ _ _) _) _ _ _)))) | (goal_has PySem.Expr.Call; (fail_if_success (fail_if_success (with_reducible show wpAny _ _ (eval (PySem.Expr.Call _ _ _ _) _) _ _ _)))) | (goal_has PySem.Expr.Compare; (fail_if_success (fail_if_success (with_reducible show wpAny _ _ (eval (PySem.Expr.Compare _ _ _ _) _) _ _ _))))); (with_reducible refine Mine.wp_fold ?_); intro zqq zqe) | (goal_has PySem.Shared.mk; (with_reducible refine Mine.st_let ?_); intro zqs; goal_lacks PySem.Shared.mk) | ((ctx_mentions ite List.lookup); (rename Fr _ _ _ _ => zqF9); revert zqF9; (goal_has ite List.lookup); (with_reducible refine Mine.fr_let ?_); intro zqm; goal_lacks ite List.lookup; intro zqF) | ((ctx_mentions List.cons HAppend.hAppend List.append); (rename News _ _ _ _ => zqN9); (fail_if_success (fail_if_success (conv at zqN9 => arg 4; arg 2))); (with_reducible refine Mine.news_let zqN9 ?_); intro zql zqN; clear zqN9) | (k_end; wrow_close) | (goal_has PySem.Expr.ListComp; ((fail_if_success (fail_if_success (with_reducible show wpAny _ _ (eval (PySem.Expr.ListComp (PySem.Expr.Call (PySem.Expr.Name _ _) _ _ _) _ _ _) _) _ _ _))); k_dflt (refine LCg.ListComp_U (F₀ := by k_asm) (by rfl) (by decide) (by rfl) (by decide) (by rfl) ?_))) | (goal_has subscriptTail; ((fail_if_success (fail_if_success (with_reducible show wpAny _ _ (subscriptTail _ (PySem.Expr.Slice none _ none _) (Value.ref _) (Value.ref _)) _ _ _))); k_dflt (refine' Mine.base_upto (x := 24) (by k_asm) (by k_asm) (by exact Heap.IsList.at (by assumption) fun o e => Fr.keep (by assumption) _ _ (Fr.keep (by assumption) _ _ e)) (by exact IsPart.int _ _) (by decide) (by assumption) (by assumption) ?_ (by with_unfolding_all rfl) (by kmk_pure)); intro zqD' zqh' zqws' zqzs' zqhzs' zqhzl' zqhzi' zqF' zqN' zql1; (try k_lt zql1); (try k_sweep))) | (goal_has binaryOp; ((fail_if_success (fail_if_success (with_reducible show wpAny _ _ (binaryOp Operator.FloorDiv (Value.int _ _) (Value.int _ _)) _ _ _))); refine floordiv_int (by omega) ?_ (Or.inl (PyProof.noPylong_small (by omega))))) | (goal_has call; (fail_if_success (fail_if_success (with_reducible show wpAny _ _ (call (Value.ref _) _ _) _ _ _))); first | (k_dflt (first | (refine' call_cls0 (by k_asm) (by k_asm) (by k_asm) (by k_is) (by k_is) ?_; k_whole; intro zqx zqd zqh zqF zqN zql1 zql2; (try ((have zqU := Mine.lts_up zql1 zql2); (dsimp +zetaDelta only [List.map] at zqU))); (try k_lt zql1); (try k_lt2 zql2); (try k_sweep)) | ((first | (refine' call_cls (by k_asm) (by k_asm) (by k_asm) (by k_is) (by k_is) (by k_is) ?_; k_whole; intro zqx zqd zqh zqF zqN zql1 zql2; (try ((have zqU := Mine.lts_up zql1 zql2); (dsimp +zetaDelta only [List.map] at zqU))); (try k_lt zql1); (try k_lt2 zql2); (try k_sweep)) | (refine' Mine.call_fn (by k_asm) (by k_is) ?_; k_whole) | (refine' call_meth (by k_asm) (by k_mem) ?_; k_whole) | refine wpAny_call ?_); (first | (refine' code_defL (by exact rfl) (by exact rfl) (by first | exact rfl | assumption) (by k_asm) (by k_asm) (by k_asm) (by k_asm) (by k_asm) (by k_is) (by k_is) (by decide) (by ktr_room) (by first | exact BindsTo.of_eq rfl | exact binds_K (by k_in) rfl (by k_is) rfl rfl rfl) (by exact locs rfl) (by exact rfl) (by exact rfl) (by exact rfl) ?_; k_whole; intro zqg zqL zqh zqtk zqFG zqF zqN zqB zqX zqT zqe zqA; (try k_lift zqB); (try ((fail_if_success (fail_if_success k_fold)); (with_reducible refine Mine.wp_fold ?_); intro zqq zqe))) | (refine' code_defCL (by exact rfl) (by exact rfl) (by exact rfl) (by k_asm) (by k_asm) (by k_asm) (by k_asm) (by k_asm) (by k_is) (by k_is) (by ktr_room) (by first | exact BindsTo.of_eq rfl | exact binds_K (by k_in) rfl (by k_is) rfl rfl rfl) (by exact rfl) (by decide +kernel) (by exact rfl) (by exact rfl) (by exact rfl) ?_; k_whole; intro zqg zqL zqh zqtk zqcells zqFG zqF zqN zqY zqB zqX zqT zql1 zqe zqA; (try k_lt zql1); k_cells zqY; (try simp only [List.cons_append, List.nil_append] at zqN); (try dsimp only); (try k_lift zqB); (try ((fail_if_success (fail_if_success k_fold)); (with_reducible refine Mine.wp_fold ?_); intro zqq zqe)))))))) | walk1 | (dsimp only; walk1) | ((with_reducible show wpAny _ _ _ _ _ _); dsimp only) | (leave1; walk_say "STEP leave1"; (first | (with_reducible refine (?_ : wpAny _ _ _ _ _ _)) | try dsimp only)))))
  all_goals first | exact (Value.none : Value) | exact (Str.ofString "" : Str) | exact ((0 : Nat) : Addr) | skip
  rename Fr _ _ _ _ => F9
  rename News _ _ _ _ => N9
  rename IntsAre _ (_ : List Int) => hi9
  rename List.length _ ≤ Int.toNat 24 => hl9
  have hv9 := hi9.length
  refine' LCg.CompSrc.ledger rfl F9 N9 (.head _) ?sz ?_
  case sz => (rw [List.size_toArray, sizeLine_eq]; omega)
  intro g9
  refine' comp_led (σ := Unit) (fun _ => _) (fun i ys _ => ∃ zs : List Int, IntsAre ys zs) () ⟨[], .nil⟩ ?turn ?fin
  case turn =>
    intro i ys c v I oI C oC D m₂ h tk E' hin hyl9 hj hP hC hx F' N' off ne
    try dsimp only at *
    obtain ⟨t9, hv'⟩ := hi9.get i _ (List.getElem?_eq_getElem (by simpa [hv9] using hin))
    have ev : v = _ := Option.some.inj (hP.symm.trans (by simpa using hv'))
    subst ev
    obtain ⟨z9, hz9⟩ := hj
    repeat' ((first | ((fail_if_success (fail_if_success k_unfold)); (first | (with_reducible refine (?_ : wpAny _ _ _ _ _ _)) | (k_unfold; (try dsimp only)))) | ((fail_if_success (fail_if_success k_fold)); (first | (goal_has PySem.exec; (fail_if_success (fail_if_success (with_reducible show wpAny _ _ (exec _ _) _ _ _)))) | (goal_has PySem.Expr.BoolOp; (fail_if_success (fail_if_success (with_reducible show wpAny _ _ (eval (PySem.Expr.BoolOp _ _ _) _) _ _ _)))) | (goal_has PySem.Expr.Call; (fail_if_success (fail_if_success (with_reducible show wpAny _ _ (eval (PySem.Expr.Call _ _ _ _) _) _ _ _)))) | (goal_has PySem.Expr.Compare; (fail_if_success (fail_if_success (with_reducible show wpAny _ _ (eval (PySem.Expr.Compare _ _ _ _) _) _ _ _))))); (with_reducible refine Mine.wp_fold ?_); intro zqq zqe) | (goal_has PySem.Shared.mk; (with_reducible refine Mine.st_let ?_); intro zqs; goal_lacks PySem.Shared.mk) | ((ctx_mentions ite List.lookup); (rename Fr _ _ _ _ => zqF9); revert zqF9; (goal_has ite List.lookup); (with_reducible refine Mine.fr_let ?_); intro zqm; goal_lacks ite List.lookup; intro zqF) | ((ctx_mentions List.cons HAppend.hAppend List.append); (rename News _ _ _ _ => zqN9); (fail_if_success (fail_if_success (conv at zqN9 => arg 4; arg 2))); (with_reducible refine Mine.news_let zqN9 ?_); intro zql zqN; clear zqN9) | (k_end; wrow_close) | (goal_has PySem.Expr.ListComp; ((fail_if_success (fail_if_success (with_reducible show wpAny _ _ (eval (PySem.Expr.ListComp (PySem.Expr.Call (PySem.Expr.Name _ _) _ _ _) _ _ _) _) _ _ _))); k_dflt (refine LCg.ListComp_U (F₀ := by k_asm) (by rfl) (by decide) (by rfl) (by decide) (by rfl) ?_))) | (goal_has subscriptTail; ((fail_if_success (fail_if_success (with_reducible show wpAny _ _ (subscriptTail _ (PySem.Expr.Slice none _ none _) (Value.ref _) (Value.ref _)) _ _ _))); k_dflt (refine' Mine.base_upto (x := 24) (by k_asm) (by k_asm) (by exact Heap.IsList.at (by assumption) fun o e => Fr.keep (by assumption) _ _ (Fr.keep (by assumption) _ _ e)) (by exact IsPart.int _ _) (by decide) (by assumption) (by assumption) ?_ (by with_unfolding_all rfl) (by kmk_pure)); intro zqD' zqh' zqws' zqzs' zqhzs' zqhzl' zqhzi' zqF' zqN' zql1; (try k_lt zql1); (try k_sweep))) | (goal_has binaryOp; ((fail_if_success (fail_if_success (with_reducible show wpAny _ _ (binaryOp Operator.FloorDiv (Value.int _ _) (Value.int _ _)) _ _ _))); refine floordiv_int (by omega) ?_ (Or.inl (PyProof.noPylong_small (by omega))))) | (goal_has call; (fail_if_success (fail_if_success (with_reducible show wpAny _ _ (call (Value.ref _) _ _) _ _ _))); first | (k_dflt (first | (refine' call_cls0 (by k_asm) (by k_asm) (by k_asm) (by k_is) (by k_is) ?_; k_whole; intro zqx zqd zqh zqF zqN zql1 zql2; (try ((have zqU := Mine.lts_up zql1 zql2); (dsimp +zetaDelta only [List.map] at zqU))); (try k_lt zql1); (try k_lt2 zql2); (try k_sweep)) | ((first | (refine' call_cls (by k_asm) (by k_asm) (by k_asm) (by k_is) (by k_is) (by k_is) ?_; k_whole; intro zqx zqd zqh zqF zqN zql1 zql2; (try ((have zqU := Mine.lts_up zql1 zql2); (dsimp +zetaDelta only [List.map] at zqU))); (try k_lt zql1); (try k_lt2 zql2); (try k_sweep)) | (refine' Mine.call_fn (by k_asm) (by k_is) ?_; k_whole) | (refine' call_meth (by k_asm) (by k_mem) ?_; k_whole) | refine wpAny_call ?_); (first | (refine' code_defL (by exact rfl) (by exact rfl) (by first | exact rfl | assumption) (by k_asm) (by k_asm) (by k_asm) (by k_asm) (by k_asm) (by k_is) (by k_is) (by decide) (by ktr_room) (by first | exact BindsTo.of_eq rfl | exact binds_K (by k_in) rfl (by k_is) rfl rfl rfl) (by exact locs rfl) (by exact rfl) (by exact rfl) (by exact rfl) ?_; k_whole; intro zqg zqL zqh zqtk zqFG zqF zqN zqB zqX zqT zqe zqA; (try k_lift zqB); (try ((fail_if_success (fail_if_success k_fold)); (with_reducible refine Mine.wp_fold ?_); intro zqq zqe))) | (refine' code_defCL (by exact rfl) (by exact rfl) (by exact rfl) (by k_asm) (by k_asm) (by k_asm) (by k_asm) (by k_asm) (by k_is) (by k_is) (by ktr_room) (by first | exact BindsTo.of_eq rfl | exact binds_K (by k_in) rfl (by k_is) rfl rfl rfl) (by exact rfl) (by decide +kernel) (by exact rfl) (by exact rfl) (by exact rfl) ?_; k_whole; intro zqg zqL zqh zqtk zqcells zqFG zqF zqN zqY zqB zqX zqT zql1 zqe zqA; (try k_lt zql1); k_cells zqY; (try simp only [List.cons_append, List.nil_append] at zqN); (try dsimp only); (try k_lift zqB); (try ((fail_if_success (fail_if_success k_fold)); (with_reducible refine Mine.wp_fold ?_); intro zqq zqe)))))))) | walk1 | (dsimp only; walk1) | ((with_reducible show wpAny _ _ _ _ _ _); dsimp only) | (leave1; walk_say "STEP leave1"; (first | (with_reducible refine (?_ : wpAny _ _ _ _ _ _)) | try dsimp only))))
    (rename Fr _ _ _ _ => F8; rename News _ _ _ _ => N8; exact ⟨_, _, (), rfl, F8, N8, off, .inr ⟨_, .head _, rfl, _, rfl⟩, z9 ++ [_], ints_app hz9 (.cons _ _ .nil)⟩)
  case fin =>
    intro ys c hyl9 hj D' h' tk' F' N' off1'
    try dsimp only at *
    obtain ⟨z9, hz9⟩ := hj
    have hzl9 := hz9.length
    have hy8 : ys.length ≤ 24 := by
      rw [hyl9, List.size_toArray, hv9]; exact hl9
    repeat' ((fail_if_success (with_reducible show wpAny _ _ (exec (PySem.Stmt.While _ _ _ _) _) _ _ _)); ((first | ((fail_if_success (fail_if_success k_unfold)); (first | (with_reducible refine (?_ : wpAny _ _ _ _ _ _)) | (k_unfold; (try dsimp only)))) | ((fail_if_success (fail_if_success k_fold)); (first | (goal_has PySem.exec; (fail_if_success (fail_if_success (with_reducible show wpAny _ _ (exec _ _) _ _ _)))) | (goal_has PySem.Expr.BoolOp; (fail_if_success (fail_if_success (with_reducible show wpAny _ _ (eval (PySem.Expr.BoolOp _ _ _) _) _ _ _)))) | (goal_has PySem.Expr.Call; (fail_if_success (fail_if_success (with_reducible show wpAny _ _ (eval (PySem.Expr.Call _ _ _ _) _) _ _ _)))) | (goal_has PySem.Expr.Compare; (fail_if_success (fail_if_success (with_reducible show wpAny _ _ (eval (PySem.Expr.Compare _ _ _ _) _) _ _ _))))); (with_reducible refine Mine.wp_fold ?_); intro zqq zqe) | (goal_has PySem.Shared.mk; (with_reducible refine Mine.st_let ?_); intro zqs; goal_lacks PySem.Shared.mk) | ((ctx_mentions ite List.lookup); (rename Fr _ _ _ _ => zqF9); revert zqF9; (goal_has ite List.lookup); (with_reducible refine Mine.fr_let ?_); intro zqm; goal_lacks ite List.lookup; intro zqF) | ((ctx_mentions List.cons HAppend.hAppend List.append); (rename News _ _ _ _ => zqN9); (fail_if_success (fail_if_success (conv at zqN9 => arg 4; arg 2))); (with_reducible refine Mine.news_let zqN9 ?_); intro zql zqN; clear zqN9) | (k_end; wrow_close) | (goal_has PySem.Expr.ListComp; ((fail_if_success (fail_if_success (with_reducible show wpAny _ _ (eval (PySem.Expr.ListComp (PySem.Expr.Call (PySem.Expr.Name _ _) _ _ _) _ _ _) _) _ _ _))); k_dflt (refine LCg.ListComp_U (F₀ := by k_asm) (by rfl) (by decide) (by rfl) (by decide) (by rfl) ?_))) | (goal_has subscriptTail; ((fail_if_success (fail_if_success (with_reducible show wpAny _ _ (subscriptTail _ (PySem.Expr.Slice none _ none _) (Value.ref _) (Value.ref _)) _ _ _))); k_dflt (refine' Mine.base_upto (x := 24) (by k_asm) (by k_asm) (by exact Heap.IsList.at (by assumption) fun o e => Fr.keep (by assumption) _ _ (Fr.keep (by assumption) _ _ e)) (by exact IsPart.int _ _) (by decide) (by assumption) (by assumption) ?_ (by with_unfolding_all rfl) (by kmk_pure)); intro zqD' zqh' zqws' zqzs' zqhzs' zqhzl' zqhzi' zqF' zqN' zql1; (try k_lt zql1); (try k_sweep))) | (goal_has binaryOp; ((fail_if_success (fail_if_success (with_reducible show wpAny _ _ (binaryOp Operator.FloorDiv (Value.int _ _) (Value.int _ _)) _ _ _))); refine floordiv_int (by omega) ?_ (Or.inl (PyProof.noPylong_small (by omega))))) | (goal_has call; (fail_if_success (fail_if_success (with_reducible show wpAny _ _ (call (Value.ref _) _ _) _ _ _))); first | (k_dflt (first | (refine' call_cls0 (by k_asm) (by k_asm) (by k_asm) (by k_is) (by k_is) ?_; k_whole; intro zqx zqd zqh zqF zqN zql1 zql2; (try ((have zqU := Mine.lts_up zql1 zql2); (dsimp +zetaDelta only [List.map] at zqU))); (try k_lt zql1); (try k_lt2 zql2); (try k_sweep)) | ((first | (refine' call_cls (by k_asm) (by k_asm) (by k_asm) (by k_is) (by k_is) (by k_is) ?_; k_whole; intro zqx zqd zqh zqF zqN zql1 zql2; (try ((have zqU := Mine.lts_up zql1 zql2); (dsimp +zetaDelta only [List.map] at zqU))); (try k_lt zql1); (try k_lt2 zql2); (try k_sweep)) | (refine' Mine.call_fn (by k_asm) (by k_is) ?_; k_whole) | (refine' call_meth (by k_asm) (by k_mem) ?_; k_whole) | refine wpAny_call ?_); (first | (refine' code_defL (by exact rfl) (by exact rfl) (by first | exact rfl | assumption) (by k_asm) (by k_asm) (by k_asm) (by k_asm) (by k_asm) (by k_is) (by k_is) (by decide) (by ktr_room) (by first | exact BindsTo.of_eq rfl | exact binds_K (by k_in) rfl (by k_is) rfl rfl rfl) (by exact locs rfl) (by exact rfl) (by exact rfl) (by exact rfl) ?_; k_whole; intro zqg zqL zqh zqtk zqFG zqF zqN zqB zqX zqT zqe zqA; (try k_lift zqB); (try ((fail_if_success (fail_if_success k_fold)); (with_reducible refine Mine.wp_fold ?_); intro zqq zqe))) | (refine' code_defCL (by exact rfl) (by exact rfl) (by exact rfl) (by k_asm) (by k_asm) (by k_asm) (by k_asm) (by k_asm) (by k_is) (by k_is) (by ktr_room) (by first | exact BindsTo.of_eq rfl | exact binds_K (by k_in) rfl (by k_is) rfl rfl rfl) (by exact rfl) (by decide +kernel) (by exact rfl) (by exact rfl) (by exact rfl) ?_; k_whole; intro zqg zqL zqh zqtk zqcells zqFG zqF zqN zqY zqB zqX zqT zql1 zqe zqA; (try k_lt zql1); k_cells zqY; (try simp only [List.cons_append, List.nil_append] at zqN); (try dsimp only); (try k_lift zqB); (try ((fail_if_success (fail_if_success k_fold)); (with_reducible refine Mine.wp_fold ?_); intro zqq zqe)))))))) | walk1 | (dsimp only; walk1) | ((with_reducible show wpAny _ _ _ _ _ _); dsimp only) | (leave1; walk_say "STEP leave1"; (first | (with_reducible refine (?_ : wpAny _ _ _ _ _ _)) | try dsimp only)))))
    rename Fr _ _ _ _ => F8
    rename News _ _ _ _ => N8
    obtain ⟨t8, ht8⟩ := fr_int (x := Str.ofString "size") F8 rfl
    refine' while_led (σ := Int × Tok × Int × Tok) (fun _ => own) (fun c => [(Str.ofString "many", .int c.1 c.2.1), (Str.ofString "size", .int c.2.2.1 c.2.2.2), (Str.ofString "most", .int 5 t2)]) (fun c => 2 ≤ c.1 ∧ c.1 ≤ 5) (fun c => (5 - c.1).toNat) (2, t1, _, t8)
      F8 (cb_drop N8 (fun q hq => .tail _ (.tail _ (.tail _ hq)))) (all_cons (fr_at F8 rfl) (all_cons ht8 (all_cons (fr_at F8 rfl) all_nil))) ⟨Int.le_refl _, by (dsimp only; omega)⟩ ?_
    clear ht8 F8 N8
    intro c u h tk hj F' N'
    obtain ⟨mv, mt, zv, zt⟩ := c
    obtain ⟨hj1, hj2⟩ := hj
    dsimp only at hj1 hj2 F' N' ⊢
    repeat' ((first | ((fail_if_success (fail_if_success k_unfold)); (first | (with_reducible refine (?_ : wpAny _ _ _ _ _ _)) | (k_unfold; (try dsimp only)))) | ((fail_if_success (fail_if_success k_fold)); (first | (goal_has PySem.exec; (fail_if_success (fail_if_success (with_reducible show wpAny _ _ (exec _ _) _ _ _)))) | (goal_has PySem.Expr.BoolOp; (fail_if_success (fail_if_success (with_reducible show wpAny _ _ (eval (PySem.Expr.BoolOp _ _ _) _) _ _ _)))) | (goal_has PySem.Expr.Call; (fail_if_success (fail_if_success (with_reducible show wpAny _ _ (eval (PySem.Expr.Call _ _ _ _) _) _ _ _)))) | (goal_has PySem.Expr.Compare; (fail_if_success (fail_if_success (with_reducible show wpAny _ _ (eval (PySem.Expr.Compare _ _ _ _) _) _ _ _))))); (with_reducible refine Mine.wp_fold ?_); intro zqq zqe) | (goal_has PySem.Shared.mk; (with_reducible refine Mine.st_let ?_); intro zqs; goal_lacks PySem.Shared.mk) | ((ctx_mentions ite List.lookup); (rename Fr _ _ _ _ => zqF9); revert zqF9; (goal_has ite List.lookup); (with_reducible refine Mine.fr_let ?_); intro zqm; goal_lacks ite List.lookup; intro zqF) | ((ctx_mentions List.cons HAppend.hAppend List.append); (rename News _ _ _ _ => zqN9); (fail_if_success (fail_if_success (conv at zqN9 => arg 4; arg 2))); (with_reducible refine Mine.news_let zqN9 ?_); intro zql zqN; clear zqN9) | (k_end; wrow_close) | (goal_has PySem.Expr.ListComp; ((fail_if_success (fail_if_success (with_reducible show wpAny _ _ (eval (PySem.Expr.ListComp (PySem.Expr.Call (PySem.Expr.Name _ _) _ _ _) _ _ _) _) _ _ _))); k_dflt (refine LCg.ListComp_U (F₀ := by k_asm) (by rfl) (by decide) (by rfl) (by decide) (by rfl) ?_))) | (goal_has subscriptTail; ((fail_if_success (fail_if_success (with_reducible show wpAny _ _ (subscriptTail _ (PySem.Expr.Slice none _ none _) (Value.ref _) (Value.ref _)) _ _ _))); k_dflt (refine' Mine.base_upto (x := 24) (by k_asm) (by k_asm) (by exact Heap.IsList.at (by assumption) fun o e => Fr.keep (by assumption) _ _ (Fr.keep (by assumption) _ _ e)) (by exact IsPart.int _ _) (by decide) (by assumption) (by assumption) ?_ (by with_unfolding_all rfl) (by kmk_pure)); intro zqD' zqh' zqws' zqzs' zqhzs' zqhzl' zqhzi' zqF' zqN' zql1; (try k_lt zql1); (try k_sweep))) | (goal_has binaryOp; ((fail_if_success (fail_if_success (with_reducible show wpAny _ _ (binaryOp Operator.FloorDiv (Value.int _ _) (Value.int _ _)) _ _ _))); refine floordiv_int (by omega) ?_ (Or.inl (PyProof.noPylong_small (by omega))))) | (goal_has call; (fail_if_success (fail_if_success (with_reducible show wpAny _ _ (call (Value.ref _) _ _) _ _ _))); first | (k_dflt (first | (refine' call_cls0 (by k_asm) (by k_asm) (by k_asm) (by k_is) (by k_is) ?_; k_whole; intro zqx zqd zqh zqF zqN zql1 zql2; (try ((have zqU := Mine.lts_up zql1 zql2); (dsimp +zetaDelta only [List.map] at zqU))); (try k_lt zql1); (try k_lt2 zql2); (try k_sweep)) | ((first | (refine' call_cls (by k_asm) (by k_asm) (by k_asm) (by k_is) (by k_is) (by k_is) ?_; k_whole; intro zqx zqd zqh zqF zqN zql1 zql2; (try ((have zqU := Mine.lts_up zql1 zql2); (dsimp +zetaDelta only [List.map] at zqU))); (try k_lt zql1); (try k_lt2 zql2); (try k_sweep)) | (refine' Mine.call_fn (by k_asm) (by k_is) ?_; k_whole) | (refine' call_meth (by k_asm) (by k_mem) ?_; k_whole) | refine wpAny_call ?_); (first | (refine' code_defL (by exact rfl) (by exact rfl) (by first | exact rfl | assumption) (by k_asm) (by k_asm) (by k_asm) (by k_asm) (by k_asm) (by k_is) (by k_is) (by decide) (by ktr_room) (by first | exact BindsTo.of_eq rfl | exact binds_K (by k_in) rfl (by k_is) rfl rfl rfl) (by exact locs rfl) (by exact rfl) (by exact rfl) (by exact rfl) ?_; k_whole; intro zqg zqL zqh zqtk zqFG zqF zqN zqB zqX zqT zqe zqA; (try k_lift zqB); (try ((fail_if_success (fail_if_success k_fold)); (with_reducible refine Mine.wp_fold ?_); intro zqq zqe))) | (refine' code_defCL (by exact rfl) (by exact rfl) (by exact rfl) (by k_asm) (by k_asm) (by k_asm) (by k_asm) (by k_asm) (by k_is) (by k_is) (by ktr_room) (by first | exact BindsTo.of_eq rfl | exact binds_K (by k_in) rfl (by k_is) rfl rfl rfl) (by exact rfl) (by decide +kernel) (by exact rfl) (by exact rfl) (by exact rfl) ?_; k_whole; intro zqg zqL zqh zqtk zqcells zqFG zqF zqN zqY zqB zqX zqT zql1 zqe zqA; (try k_lt zql1); k_cells zqY; (try simp only [List.cons_append, List.nil_append] at zqN); (try dsimp only); (try k_lift zqB); (try ((fail_if_success (fail_if_success k_fold)); (with_reducible refine Mine.wp_fold ?_); intro zqq zqe)))))))) | walk1 | (dsimp only; walk1) | ((with_reducible show wpAny _ _ _ _ _ _); dsimp only) | (leave1; walk_say "STEP leave1"; (first | (with_reducible refine (?_ : wpAny _ _ _ _ _ _)) | try dsimp only))))
    all_goals first
      | (rename Fr _ _ _ _ => F9
         rename News _ _ _ _ => N9
         exact ret _ _ _ _ hj1 hj2 F9 N9)
      | (rename Fr _ _ _ _ => F9
         rename News _ _ _ _ => N9
         obtain ⟨t9, ht9⟩ := fr_int (x := Str.ofString "size") F9 rfl
         obtain ⟨t7, ht7⟩ := fr_int (x := Str.ofString "many") F9 rfl
         refine wl_next (_, t7, _, t9) F9 N9 (all_cons ht7 (all_cons ht9 (all_cons (fr_at F9 rfl) all_nil))) (fun q hq => .tail _ hq) ?_ ⟨?_, ?_⟩
         · dsimp only
           omega
         · dsimp only
           omega
         · dsimp only
           omega)
  )) only [↓Mine.wrap_i]
end
section
variable {prog : Program} {w : World} {A : Around} {E : Value → Shared → Prop} {s : Shared} {h₀ : Heap} {L : Addr} {m : Str → Option Value} {news : List (Addr × Obj)}
/-- [v] * k of any value -/
theorem rep_val {l : Addr} {k : Nat} {v : Value} {u : Tok} {x : Int} {Q : Value → Shared → Prop} (F : Fr h₀ L s.heap m) (N : News h₀ L s.heap news) (hm : (l, listOf #[v] k) ∈ news) (h0 : 0 ≤ x) (h1 : x ≤ 9)
    (h : ∀ D h', Fr h₀ L h' m → News h₀ L h' ((D, listOf (List.toArray (List.replicate x.toNat v)) 0) :: news) → (∀ p ∈ news, p.1 < D) → Q (.ref D) { s with heap := h' }) :
    wpAny (model prog w) A (binaryOp .Mult (.ref l) (.int x u)) Q E s :=
  KMa.mul (vs := [v]) F N (PySem.IsL.isList (n := k) (N _ hm).1) (by omega) (by omega) (by simp only [List.length_singleton]; omega) (by simp) h
end
/-- the bound that a fact speaks of -/
def bndOf {Y : Addr} {own : List (Addr × Obj)} (_ : ∀ q ∈ own, q.1 < Y) : Addr := Y
/-- a matrix's dict -/
abbrev matO (P : Params) (T : Nat → Tok) (wd ht : Int) (rs cu : Addr) : Obj := dictOf [
  en P "width" (T 0) (.int wd (T 4)), en P "height" (T 1) (.int ht (T 5)), en P "rows" (T 2) (.ref rs), en P "cursor" (T 3) (.ref cu)] 4
/-- a row of blank cells -/
abbrev rowV (wd : Int) : Obj := listOf (List.replicate wd.toNat (Value.ref (815 : Nat))).toArray 0
section
variable {prog : Program} {w : World} {p : Program} {loose : List Str} {mean : ExcName → Option Value} {mg mb : Str → Option Value} {dp un : Nat} {gd : Option (List Code)} {cn : Str} {cnm : List (Str × NameKind)} {cg cc : Bool} {cm : List (Str × Const)} {a : Addr} {ccd : Value} {cl : List (Str × Addr)} {outer : List Env} {A₀ : Around} {base h₀ : Heap} {L : Addr} {m : Str → Option Value} {s : Shared} {Q E : Value → Shared → Prop}

theorem matrix_ok {wd ht : Int} {t1 t2 : Tok} {own : List (Addr × Obj)}
    (B : Below A₀ base outer h₀) (F : Fr h₀ L s.heap m) (X : (Mine.fr.heap_1_1 w.params).In h₀) (N : News h₀ L s.heap own) (TT : Top p loose mean mg mb h₀)
    (hw1 : 2 ≤ wd) (hw2 : wd ≤ 9) (hh1 : 2 ≤ ht) (hh2 : ht ≤ 3)
    (hd : dp + 10 < recursionLimit) (hu : un + 300 < cLine)
    (ret : ∀ x md rs cu T ys nr own' h' tk', (∀ p ∈ own, p ∈ own') → ys.length = ht.toNat → (∀ y ∈ ys, ∃ r : Addr, y = .ref r ∧ (r, rowV wd) ∈ own') → (∀ p ∈ own', p.1 ≠ rs) → ((@Ne Nat x rs) ∧ (@Ne Nat md rs)) → Fr h₀ L h' m →
      News h₀ L h' ((x, instObj 842 md) :: (md, matO w.params T wd ht rs cu) :: (rs, listOf (List.toArray ys) nr) :: own') → Q (.ref x) { s with heap := h', toks := tk' }) :
    wpAny (model prog w) (ktrTop dp un gd cn ⟨.function, cnm, cg, cc, cm⟩ L a ccd cl outer) (call (.ref (842 : Nat)) [.int wd t1, .int ht t2]) Q E s := by
  refine Mine.unwrap ?_
  simp (disch := k_dflt (
  have _h : PySem.Challenge.rw_on0075_01 = PySem.Challenge.rw_on0075_01 ∧ Mine.fr.heap_1_1 = Mine.fr.heap_1_1 := by (k_fill; exact ⟨rfl, rfl⟩)
  clear _h
  w_top off
  repeat' ((fail_if_success (with_reducible show LCg.CompSrc _ _ _ _ _ _ _ _ _ _ _ _ _ _)); ((first | ((fail_if_success (fail_if_success k_unfold)); (first | (with_reducible refine (?_ : wpAny _ _ _ _ _ _)) | (k_unfold; (try dsimp only)))) | ((fail_if_success (fail_if_success k_fold)); (first | (goal_has PySem.exec; (fail_if_success (fail_if_success (with_reducible show wpAny _ _ (exec _ _) _ _ _)))) | (goal_has PySem.Expr.BoolOp; (fail_if_success (fail_if_success (with_reducible show wpAny _ _ (eval (PySem.Expr.BoolOp _ _ _) _) _ _ _)))) | (goal_has PySem.Expr.Call; (fail_if_success (fail_if_success (with_reducible show wpAny _ _ (eval (PySem.Expr.Call _ _ _ _) _) _ _ _)))) | (goal_has PySem.Expr.Compare; (fail_if_success (fail_if_success (with_reducible show wpAny _ _ (eval (PySem.Expr.Compare _ _ _ _) _) _ _ _))))); (with_reducible refine Mine.wp_fold ?_); intro zqq zqe) | (goal_has PySem.Shared.mk; (with_reducible refine Mine.st_let ?_); intro zqs; goal_lacks PySem.Shared.mk) | ((ctx_mentions ite List.lookup); (rename Fr _ _ _ _ => zqF9); revert zqF9; (goal_has ite List.lookup); (with_reducible refine Mine.fr_let ?_); intro zqm; goal_lacks ite List.lookup; intro zqF) | ((ctx_mentions List.cons HAppend.hAppend List.append); (rename News _ _ _ _ => zqN9); (fail_if_success (fail_if_success (conv at zqN9 => arg 4; arg 2))); (with_reducible refine Mine.news_let zqN9 ?_); intro zql zqN; clear zqN9) | (k_end; wrow_close) | (goal_has binaryOp; ((fail_if_success (fail_if_success (with_reducible show wpAny _ _ (binaryOp Operator.Mult (Value.ref _) (Value.int _ _)) _ _ _))); k_dflt (refine' Mine.rep_val (by k_asm) (by k_asm) (by k_mem) (by first | decide | omega) (by first | decide | omega) ?_); intro zqD' zqh' zqF' zqN' zql1; (try k_lt zql1); (try k_sweep))) | (goal_has call; (fail_if_success (fail_if_success (with_reducible show wpAny _ _ (call (Value.ref _) _ _) _ _ _))); first | (k_dflt (first | (refine' call_cls0 (by k_asm) (by k_asm) (by k_asm) (by k_is) (by k_is) ?_; k_whole; intro zqx zqd zqh zqF zqN zql1 zql2; (try ((have zqU := Mine.lts_up zql1 zql2); (dsimp +zetaDelta only [List.map] at zqU))); (try k_lt zql1); (try k_lt2 zql2); (try k_sweep)) | ((first | (refine' call_cls (by k_asm) (by k_asm) (by k_asm) (by k_is) (by k_is) (by k_is) ?_; k_whole; intro zqx zqd zqh zqF zqN zql1 zql2; (try ((have zqU := Mine.lts_up zql1 zql2); (dsimp +zetaDelta only [List.map] at zqU))); (try k_lt zql1); (try k_lt2 zql2); (try k_sweep)) | (refine' Mine.call_fn (by k_asm) (by k_is) ?_; k_whole) | (refine' call_meth (by k_asm) (by k_mem) ?_; k_whole) | refine wpAny_call ?_); (first | (refine' code_defL (by exact rfl) (by exact rfl) (by first | exact rfl | assumption) (by k_asm) (by k_asm) (by k_asm) (by k_asm) (by k_asm) (by k_is) (by k_is) (by decide) (by ktr_room) (by first | exact BindsTo.of_eq rfl | exact binds_K (by k_in) rfl (by k_is) rfl rfl rfl) (by exact locs rfl) (by exact rfl) (by exact rfl) (by exact rfl) ?_; k_whole; intro zqg zqL zqh zqtk zqFG zqF zqN zqB zqX zqT zqe zqA; (try k_lift zqB); (try ((fail_if_success (fail_if_success k_fold)); (with_reducible refine Mine.wp_fold ?_); intro zqq zqe))) | (refine' code_defCL (by exact rfl) (by exact rfl) (by exact rfl) (by k_asm) (by k_asm) (by k_asm) (by k_asm) (by k_asm) (by k_is) (by k_is) (by ktr_room) (by first | exact BindsTo.of_eq rfl | exact binds_K (by k_in) rfl (by k_is) rfl rfl rfl) (by exact rfl) (by decide +kernel) (by exact rfl) (by exact rfl) (by exact rfl) ?_; k_whole; intro zqg zqL zqh zqtk zqcells zqFG zqF zqN zqY zqB zqX zqT zql1 zqe zqA; (try k_lt zql1); k_cells zqY; (try simp only [List.cons_append, List.nil_append] at zqN); (try dsimp only); (try k_lift zqB); (try ((fail_if_success (fail_if_success k_fold)); (with_reducible refine Mine.wp_fold ?_); intro zqq zqe)))))))) | walk1 | (dsimp only; walk1) | ((with_reducible show wpAny _ _ _ _ _ _); dsimp only) | (leave1; walk_say "STEP leave1"; (first | (with_reducible refine (?_ : wpAny _ _ _ _ _ _)) | try dsimp only)))))
  all_goals first | exact (Value.none : Value) | exact (Str.ofString "" : Str) | exact ((0 : Nat) : Addr) | skip
  k_dflt (refine' LCg.CompSrc.range ?r0 ?k1 ?k2 ?r1 ?r2 ?r3 ?r4 ?_; (case r0 => exact rfl); (case k1 => k_asm); (case k2 => k_asm); (case r1 => assumption); (case r2 => exact small_one (by omega) (by omega) (by omega) (by omega)); (case r3 => exact rangeSize_nat _ _); (case r4 => ((rw [PySem.sizeLine_eq]); omega)))
  intro g'
  have hlt : ∀ q ∈ own, q.1 < _ := (by assumption)
  refine' comp_led (σ := List (Addr × Obj)) (fun c => _ :: _ :: _ :: c) (fun _ ys c => (∀ p ∈ own, p ∈ c) ∧ (∀ p ∈ c, p.1 ≠ bndOf hlt) ∧ ∀ y ∈ ys, ∃ r : Addr, y = .ref r ∧ (r, rowV wd) ∈ c) own ⟨fun p h => h, fun q hq => Nat.ne_of_lt (hlt q hq), fun _ h => nomatch h⟩ ?turn ?fin
  case turn =>
    intro i ys c v I oI C oC D m₂ h tk E' hin hyl hj hP hC hx F' N' off ne
    try dsimp only at *
    obtain ⟨hj1, hj2, hj3⟩ := hj
    have off2 := off
    simp only [LCg.Off3, and_true] at off
    dsimp only [bndOf] at hj2
    repeat' ((first | ((fail_if_success (fail_if_success k_unfold)); (first | (with_reducible refine (?_ : wpAny _ _ _ _ _ _)) | (k_unfold; (try dsimp only)))) | ((fail_if_success (fail_if_success k_fold)); (first | (goal_has PySem.exec; (fail_if_success (fail_if_success (with_reducible show wpAny _ _ (exec _ _) _ _ _)))) | (goal_has PySem.Expr.BoolOp; (fail_if_success (fail_if_success (with_reducible show wpAny _ _ (eval (PySem.Expr.BoolOp _ _ _) _) _ _ _)))) | (goal_has PySem.Expr.Call; (fail_if_success (fail_if_success (with_reducible show wpAny _ _ (eval (PySem.Expr.Call _ _ _ _) _) _ _ _)))) | (goal_has PySem.Expr.Compare; (fail_if_success (fail_if_success (with_reducible show wpAny _ _ (eval (PySem.Expr.Compare _ _ _ _) _) _ _ _))))); (with_reducible refine Mine.wp_fold ?_); intro zqq zqe) | (goal_has PySem.Shared.mk; (with_reducible refine Mine.st_let ?_); intro zqs; goal_lacks PySem.Shared.mk) | ((ctx_mentions ite List.lookup); (rename Fr _ _ _ _ => zqF9); revert zqF9; (goal_has ite List.lookup); (with_reducible refine Mine.fr_let ?_); intro zqm; goal_lacks ite List.lookup; intro zqF) | ((ctx_mentions List.cons HAppend.hAppend List.append); (rename News _ _ _ _ => zqN9); (fail_if_success (fail_if_success (conv at zqN9 => arg 4; arg 2))); (with_reducible refine Mine.news_let zqN9 ?_); intro zql zqN; clear zqN9) | (k_end; wrow_close) | (goal_has binaryOp; ((fail_if_success (fail_if_success (with_reducible show wpAny _ _ (binaryOp Operator.Mult (Value.ref _) (Value.int _ _)) _ _ _))); k_dflt (refine' Mine.rep_val (by k_asm) (by k_asm) (by k_mem) (by first | decide | omega) (by first | decide | omega) ?_); intro zqD' zqh' zqF' zqN' zql1; (try k_lt zql1); (try k_sweep))) | (goal_has call; (fail_if_success (fail_if_success (with_reducible show wpAny _ _ (call (Value.ref _) _ _) _ _ _))); first | (k_dflt (first | (refine' call_cls0 (by k_asm) (by k_asm) (by k_asm) (by k_is) (by k_is) ?_; k_whole; intro zqx zqd zqh zqF zqN zql1 zql2; (try ((have zqU := Mine.lts_up zql1 zql2); (dsimp +zetaDelta only [List.map] at zqU))); (try k_lt zql1); (try k_lt2 zql2); (try k_sweep)) | ((first | (refine' call_cls (by k_asm) (by k_asm) (by k_asm) (by k_is) (by k_is) (by k_is) ?_; k_whole; intro zqx zqd zqh zqF zqN zql1 zql2; (try ((have zqU := Mine.lts_up zql1 zql2); (dsimp +zetaDelta only [List.map] at zqU))); (try k_lt zql1); (try k_lt2 zql2); (try k_sweep)) | (refine' Mine.call_fn (by k_asm) (by k_is) ?_; k_whole) | (refine' call_meth (by k_asm) (by k_mem) ?_; k_whole) | refine wpAny_call ?_); (first | (refine' code_defL (by exact rfl) (by exact rfl) (by first | exact rfl | assumption) (by k_asm) (by k_asm) (by k_asm) (by k_asm) (by k_asm) (by k_is) (by k_is) (by decide) (by ktr_room) (by first | exact BindsTo.of_eq rfl | exact binds_K (by k_in) rfl (by k_is) rfl rfl rfl) (by exact locs rfl) (by exact rfl) (by exact rfl) (by exact rfl) ?_; k_whole; intro zqg zqL zqh zqtk zqFG zqF zqN zqB zqX zqT zqe zqA; (try k_lift zqB); (try ((fail_if_success (fail_if_success k_fold)); (with_reducible refine Mine.wp_fold ?_); intro zqq zqe))) | (refine' code_defCL (by exact rfl) (by exact rfl) (by exact rfl) (by k_asm) (by k_asm) (by k_asm) (by k_asm) (by k_asm) (by k_is) (by k_is) (by ktr_room) (by first | exact BindsTo.of_eq rfl | exact binds_K (by k_in) rfl (by k_is) rfl rfl rfl) (by exact rfl) (by decide +kernel) (by exact rfl) (by exact rfl) (by exact rfl) ?_; k_whole; intro zqg zqL zqh zqtk zqcells zqFG zqF zqN zqY zqB zqX zqT zql1 zqe zqA; (try k_lt zql1); k_cells zqY; (try simp only [List.cons_append, List.nil_append] at zqN); (try dsimp only); (try k_lift zqB); (try ((fail_if_success (fail_if_success k_fold)); (with_reducible refine Mine.wp_fold ?_); intro zqq zqe)))))))) | walk1 | (dsimp only; walk1) | ((with_reducible show wpAny _ _ _ _ _ _); dsimp only) | (leave1; walk_say "STEP leave1"; (first | (with_reducible refine (?_ : wpAny _ _ _ _ _ _)) | try dsimp only))))
    rename Fr _ _ _ _ => F9
    rename News _ _ _ _ => N9
    exact ⟨_, _, (_, rowV wd) :: c, rfl, F9, cb_drop N9 (List.forall_mem_cons.mpr ⟨.tail _ (.tail _ (.head _)), List.forall_mem_cons.mpr ⟨.tail _ (.tail _ (.tail _ (.head _))), List.forall_mem_cons.mpr ⟨.tail _ (.tail _ (.tail _ (.tail _ (.head _)))),
        List.forall_mem_cons.mpr ⟨.tail _ (.tail _ (.tail _ (.tail _ (.tail _ (.head _))))), List.forall_mem_cons.mpr ⟨.tail _ (.tail _ (.tail _ (.tail _ (.tail _ (.tail _ (.head _)))))), List.forall_mem_cons.mpr ⟨.tail _ (.tail _ (.tail _ (.tail _ (.tail _ (.tail _ (.tail _ (.head _))))))),
        List.forall_mem_cons.mpr ⟨.head _, fun q hq => .tail _ (.tail _ (.tail _ (.tail _ (.tail _ (.tail _ (.tail _ (.tail _ hq)))))))⟩⟩⟩⟩⟩⟩⟩),
      ⟨off2.1, off2.2.1, off2.2.2.1, ⟨by k_ne, by k_ne, by k_ne⟩, off2.2.2.2⟩, trivial, fun q hq => .tail _ (hj1 q hq), List.forall_mem_cons.mpr ⟨by (dsimp only [bndOf]; k_ne), hj2⟩, fun y hy => by
        rcases List.mem_append.mp hy with hy | hy
        · obtain ⟨r, e, hr⟩ := hj3 y hy
          exact ⟨r, e, .tail _ hr⟩
        · rw [List.mem_singleton.mp hy]
          exact ⟨_, rfl, .head _⟩⟩
  case fin =>
    intro ys c hyl hj D' h' tk' F' N' off1'
    obtain ⟨hj1, hj2, hj3⟩ := hj
    have off2 := off1'
    (try (dsimp only at *)); (try (simp only [LCg.Off1, and_true] at off1')); (try ((fail_if_success (fail_if_success k_fold)); (with_reducible refine Mine.wp_fold ?_); intro zqq zqe))
    dsimp only [bndOf] at hj2
    repeat' ((first | ((fail_if_success (fail_if_success k_unfold)); (first | (with_reducible refine (?_ : wpAny _ _ _ _ _ _)) | (k_unfold; (try dsimp only)))) | ((fail_if_success (fail_if_success k_fold)); (first | (goal_has PySem.exec; (fail_if_success (fail_if_success (with_reducible show wpAny _ _ (exec _ _) _ _ _)))) | (goal_has PySem.Expr.BoolOp; (fail_if_success (fail_if_success (with_reducible show wpAny _ _ (eval (PySem.Expr.BoolOp _ _ _) _) _ _ _)))) | (goal_has PySem.Expr.Call; (fail_if_success (fail_if_success (with_reducible show wpAny _ _ (eval (PySem.Expr.Call _ _ _ _) _) _ _ _)))) | (goal_has PySem.Expr.Compare; (fail_if_success (fail_if_success (with_reducible show wpAny _ _ (eval (PySem.Expr.Compare _ _ _ _) _) _ _ _))))); (with_reducible refine Mine.wp_fold ?_); intro zqq zqe) | (goal_has PySem.Shared.mk; (with_reducible refine Mine.st_let ?_); intro zqs; goal_lacks PySem.Shared.mk) | ((ctx_mentions ite List.lookup); (rename Fr _ _ _ _ => zqF9); revert zqF9; (goal_has ite List.lookup); (with_reducible refine Mine.fr_let ?_); intro zqm; goal_lacks ite List.lookup; intro zqF) | ((ctx_mentions List.cons HAppend.hAppend List.append); (rename News _ _ _ _ => zqN9); (fail_if_success (fail_if_success (conv at zqN9 => arg 4; arg 2))); (with_reducible refine Mine.news_let zqN9 ?_); intro zql zqN; clear zqN9) | (k_end; wrow_close) | (goal_has binaryOp; ((fail_if_success (fail_if_success (with_reducible show wpAny _ _ (binaryOp Operator.Mult (Value.ref _) (Value.int _ _)) _ _ _))); k_dflt (refine' Mine.rep_val (by k_asm) (by k_asm) (by k_mem) (by first | decide | omega) (by first | decide | omega) ?_); intro zqD' zqh' zqF' zqN' zql1; (try k_lt zql1); (try k_sweep))) | (goal_has call; (fail_if_success (fail_if_success (with_reducible show wpAny _ _ (call (Value.ref _) _ _) _ _ _))); first | (k_dflt (first | (refine' call_cls0 (by k_asm) (by k_asm) (by k_asm) (by k_is) (by k_is) ?_; k_whole; intro zqx zqd zqh zqF zqN zql1 zql2; (try ((have zqU := Mine.lts_up zql1 zql2); (dsimp +zetaDelta only [List.map] at zqU))); (try k_lt zql1); (try k_lt2 zql2); (try k_sweep)) | ((first | (refine' call_cls (by k_asm) (by k_asm) (by k_asm) (by k_is) (by k_is) (by k_is) ?_; k_whole; intro zqx zqd zqh zqF zqN zql1 zql2; (try ((have zqU := Mine.lts_up zql1 zql2); (dsimp +zetaDelta only [List.map] at zqU))); (try k_lt zql1); (try k_lt2 zql2); (try k_sweep)) | (refine' Mine.call_fn (by k_asm) (by k_is) ?_; k_whole) | (refine' call_meth (by k_asm) (by k_mem) ?_; k_whole) | refine wpAny_call ?_); (first | (refine' code_defL (by exact rfl) (by exact rfl) (by first | exact rfl | assumption) (by k_asm) (by k_asm) (by k_asm) (by k_asm) (by k_asm) (by k_is) (by k_is) (by decide) (by ktr_room) (by first | exact BindsTo.of_eq rfl | exact binds_K (by k_in) rfl (by k_is) rfl rfl rfl) (by exact locs rfl) (by exact rfl) (by exact rfl) (by exact rfl) ?_; k_whole; intro zqg zqL zqh zqtk zqFG zqF zqN zqB zqX zqT zqe zqA; (try k_lift zqB); (try ((fail_if_success (fail_if_success k_fold)); (with_reducible refine Mine.wp_fold ?_); intro zqq zqe))) | (refine' code_defCL (by exact rfl) (by exact rfl) (by exact rfl) (by k_asm) (by k_asm) (by k_asm) (by k_asm) (by k_asm) (by k_is) (by k_is) (by ktr_room) (by first | exact BindsTo.of_eq rfl | exact binds_K (by k_in) rfl (by k_is) rfl rfl rfl) (by exact rfl) (by decide +kernel) (by exact rfl) (by exact rfl) (by exact rfl) ?_; k_whole; intro zqg zqL zqh zqtk zqcells zqFG zqF zqN zqY zqB zqX zqT zql1 zqe zqA; (try k_lt zql1); k_cells zqY; (try simp only [List.cons_append, List.nil_append] at zqN); (try dsimp only); (try k_lift zqB); (try ((fail_if_success (fail_if_success k_fold)); (with_reducible refine Mine.wp_fold ?_); intro zqq zqe)))))))) | walk1 | (dsimp only; walk1) | ((with_reducible show wpAny _ _ _ _ _ _); dsimp only) | (leave1; walk_say "STEP leave1"; (first | (with_reducible refine (?_ : wpAny _ _ _ _ _ _)) | try dsimp only))))
    all_goals first | exact (Value.none : Value) | exact (Str.ofString "" : Str) | exact ((0 : Nat) : Addr) | skip
    all_goals (rename Fr _ _ _ _ => F9; rename News _ _ _ _ => N9)
    exact ret _ _ _ _ (tokF [_, _, _, _, _, _]) _ _ c _ _ hj1 (by omega) hj3 (off1_ne off2.2.2.2) ⟨off2.2.1, off2.2.2.1⟩ F9 (cb_drop N9 (List.forall_mem_cons.mpr ⟨.tail _ (.tail _ (.tail _ (.head _))), List.forall_mem_cons.mpr ⟨.tail _ (.tail _ (.tail _ (.tail _ (.head _)))), List.forall_mem_cons.mpr ⟨.tail _ (.head _), fun q hq => .tail _ (.tail _ (.tail _ (.tail _ (.tail _ hq))))⟩⟩⟩))
  )) only [↓Mine.wrap_i]
end
section
variable {prog : Program} {w : World} {p : Program} {loose : List Str} {mean : ExcName → Option Value} {mg mb : Str → Option Value} {dp un : Nat} {gd : Option (List Code)} {cn : Str} {cnm : List (Str × NameKind)} {cg cc : Bool} {cm : List (Str × Const)} {a : Addr} {ccd : Value} {cl : List (Str × Addr)} {outer : List Env} {A₀ : Around} {base h₀ : Heap} {L : Addr} {m : Str → Option Value} {s : Shared} {Q E : Value → Shared → Prop}

theorem echoof_ok {e ed bt lm mm ud mk am re : Addr} {T2 : Nat → Tok} {msg : Str} {wn : Value} {own : List (Addr × Obj)}
    (B : Below A₀ base outer h₀) (F : Fr h₀ L s.heap m) (X : (Mine.fr.heap_1_1 w.params).In h₀) (N : News h₀ L s.heap own) (TT : Top p loose mean mg mb h₀)
    (me : (e, instObj 810 ed) ∈ own) (med : (ed, edO w.params T2 bt lm mm ud mk am re wn msg) ∈ own)
    (hd : dp + 5 < recursionLimit) (hu : un + 200 < cLine)
    (ret : ∀ tp t n h' tk', (∀ q ∈ own, q.1 < tp) → Fr h₀ L h' m → News h₀ L h' ((tp, ({ cls := .type "tuple", data := .seq #[.str msg t, .none] n } : Obj)) :: own) → Q (.ref tp) { s with heap := h', toks := tk' }) :
    wpAny (model prog w) (ktrTop dp un gd cn ⟨.function, cnm, cg, cc, cm⟩ L a ccd cl outer) (call (.ref (127 : Nat)) [.ref e]) Q E s := by
  refine Mine.unwrap ?_
  simp (disch := k_dflt (
  have _h : PySem.Challenge.rw_on0075_01 = PySem.Challenge.rw_on0075_01 ∧ Mine.fr.heap_1_1 = Mine.fr.heap_1_1 := by (k_fill; exact ⟨rfl, rfl⟩)
  clear _h
  w_top off
  repeat' ((first | ((fail_if_success (fail_if_success k_unfold)); (first | (with_reducible refine (?_ : wpAny _ _ _ _ _ _)) | (k_unfold; (try dsimp only)))) | ((fail_if_success (fail_if_success k_fold)); (first | (goal_has PySem.exec; (fail_if_success (fail_if_success (with_reducible show wpAny _ _ (exec _ _) _ _ _)))) | (goal_has PySem.Expr.BoolOp; (fail_if_success (fail_if_success (with_reducible show wpAny _ _ (eval (PySem.Expr.BoolOp _ _ _) _) _ _ _)))) | (goal_has PySem.Expr.Call; (fail_if_success (fail_if_success (with_reducible show wpAny _ _ (eval (PySem.Expr.Call _ _ _ _) _) _ _ _)))) | (goal_has PySem.Expr.Compare; (fail_if_success (fail_if_success (with_reducible show wpAny _ _ (eval (PySem.Expr.Compare _ _ _ _) _) _ _ _))))); (with_reducible refine Mine.wp_fold ?_); intro zqq zqe) | (goal_has PySem.Shared.mk; (with_reducible refine Mine.st_let ?_); intro zqs; goal_lacks PySem.Shared.mk) | ((ctx_mentions ite List.lookup); (rename Fr _ _ _ _ => zqF9); revert zqF9; (goal_has ite List.lookup); (with_reducible refine Mine.fr_let ?_); intro zqm; goal_lacks ite List.lookup; intro zqF) | ((ctx_mentions List.cons HAppend.hAppend List.append); (rename News _ _ _ _ => zqN9); (fail_if_success (fail_if_success (conv at zqN9 => arg 4; arg 2))); (with_reducible refine Mine.news_let zqN9 ?_); intro zql zqN; clear zqN9) | (k_end; wrow_close) | (goal_has call; (fail_if_success (fail_if_success (with_reducible show wpAny _ _ (call (Value.ref _) _ _) _ _ _))); first | (k_dflt (first | (refine' call_cls0 (by k_asm) (by k_asm) (by k_asm) (by k_is) (by k_is) ?_; k_whole; intro zqx zqd zqh zqF zqN zql1 zql2; (try ((have zqU := Mine.lts_up zql1 zql2); (dsimp +zetaDelta only [List.map] at zqU))); (try k_lt zql1); (try k_lt2 zql2); (try k_sweep)) | ((first | (refine' call_cls (by k_asm) (by k_asm) (by k_asm) (by k_is) (by k_is) (by k_is) ?_; k_whole; intro zqx zqd zqh zqF zqN zql1 zql2; (try ((have zqU := Mine.lts_up zql1 zql2); (dsimp +zetaDelta only [List.map] at zqU))); (try k_lt zql1); (try k_lt2 zql2); (try k_sweep)) | (refine' Mine.call_fn (by k_asm) (by k_is) ?_; k_whole) | (refine' call_meth (by k_asm) (by k_mem) ?_; k_whole) | refine wpAny_call ?_); (first | (refine' code_defL (by exact rfl) (by exact rfl) (by first | exact rfl | assumption) (by k_asm) (by k_asm) (by k_asm) (by k_asm) (by k_asm) (by k_is) (by k_is) (by decide) (by ktr_room) (by first | exact BindsTo.of_eq rfl | exact binds_K (by k_in) rfl (by k_is) rfl rfl rfl) (by exact locs rfl) (by exact rfl) (by exact rfl) (by exact rfl) ?_; k_whole; intro zqg zqL zqh zqtk zqFG zqF zqN zqB zqX zqT zqe zqA; (try k_lift zqB); (try ((fail_if_success (fail_if_success k_fold)); (with_reducible refine Mine.wp_fold ?_); intro zqq zqe))) | (refine' code_defCL (by exact rfl) (by exact rfl) (by exact rfl) (by k_asm) (by k_asm) (by k_asm) (by k_asm) (by k_asm) (by k_is) (by k_is) (by ktr_room) (by first | exact BindsTo.of_eq rfl | exact binds_K (by k_in) rfl (by k_is) rfl rfl rfl) (by exact rfl) (by decide +kernel) (by exact rfl) (by exact rfl) (by exact rfl) ?_; k_whole; intro zqg zqL zqh zqtk zqcells zqFG zqF zqN zqY zqB zqX zqT zql1 zqe zqA; (try k_lt zql1); k_cells zqY; (try simp only [List.cons_append, List.nil_append] at zqN); (try dsimp only); (try k_lift zqB); (try ((fail_if_success (fail_if_success k_fold)); (with_reducible refine Mine.wp_fold ?_); intro zqq zqe)))))))) | walk1 | (dsimp only; walk1) | ((with_reducible show wpAny _ _ _ _ _ _); dsimp only) | (leave1; walk_say "STEP leave1"; (first | (with_reducible refine (?_ : wpAny _ _ _ _ _ _)) | try dsimp only))))
  all_goals (rename Fr _ _ _ _ => F9; rename News _ _ _ _ => N9)
  all_goals exact ret _ _ _ _ _ (by first | assumption | exact kst_ltOf (by assumption)) F9 N9
  )) only [↓Mine.wrap_i]
end
section
variable {prog : Program} {w : World} {A : Around} {E : Value → Shared → Prop} {s : Shared} {h₀ : Heap} {L : Addr} {m : Str → Option Value} {news : List (Addr × Obj)}
theorem val_row {l : Addr} {vs : List Value} {c : Nat} {value slice : PySem.Expr} {k : Int} {u : Tok} {o : Obj} {own : List (Addr × Obj)} {Q : Value → Shared → Prop} (N : News h₀ L s.heap news) (hm : (l, listOf vs.toArray c) ∈ news) (hy : ∀ y ∈ vs, ∃ r : Addr, y = .ref r ∧ (r, o) ∈ own) (h0 : 0 ≤ k) (h1 : k < (vs.length : Int)) (hz : k ≤ 2 ^ 24)
    (h : ∀ r : Addr, (r, o) ∈ own → Q (.ref r) s)
    (hs : subscripted slice false (.ref l) (.int k u) = operate [.ref l, .int k u] (getItem (.ref l) (.int k u)) := by with_unfolding_all rfl) (hg : ∀ r, letTemporaryGo value (.ref l) r = pure () := by intro _; with_unfolding_all rfl) :
    wpAny (model prog w) A (subscriptTail value slice (.ref l) (.int k u)) Q E s :=
  val_item N hm h0 h1 hz (fun x hx => by
    obtain ⟨r, rfl, hr⟩ := hy x (List.mem_of_getElem? hx)
    exact h r hr) hs hg
theorem setL_some : ∀ {l : List Value} {k : Nat} {v : Value}, k < l.length → ki_setL l k v = some (l.set k v)
  | [], _, _, h => absurd h (Nat.not_lt_zero _)
  | _ :: _, 0, _, _ => rfl
  | x :: r, k + 1, v, h => by
    unfold ki_setL
    rw [setL_some (l := r) (k := k) (v := v) (Nat.lt_of_succ_lt_succ h)]
    rfl
theorem val_set {D : Addr} {vs : List Value} {n : Nat} {news' : List (Addr × Obj)} {k : Int} {t : Tok} {v : Value} {Q : Unit → Shared → Prop} (F : Fr h₀ L s.heap m) (N : News h₀ L s.heap news) (U : Upd D (listOf vs.toArray n) (listOf (vs.set k.toNat v).toArray n) news news')
    (h0 : 0 ≤ k) (h1 : k < (vs.length : Int)) (hz : k ≤ 24)
    (h : ∀ h', Fr h₀ L h' m → News h₀ L h' news' → Q () { s with heap := h' }) : wpAny (model prog w) A (setItem (.ref D) (.int k t) v) Q E s :=
  ki_set F N h0 (by omega) (setL_some (by show k.toNat < vs.length; omega)) U h
end
section
variable {prog : Program} {w : World} {p : Program} {loose : List Str} {mean : ExcName → Option Value} {mg mb : Str → Option Value} {dp un : Nat} {gd : Option (List Code)} {cn : Str} {cnm : List (Str × NameKind)} {cg cc : Bool} {cm : List (Str × Const)} {a : Addr} {ccd : Value} {cl : List (Str × Addr)} {outer : List Env} {A₀ : Around} {base h₀ : Heap} {L : Addr} {m : Str → Option Value} {s : Shared} {Q E : Value → Shared → Prop}

theorem put_ok {x md rs cu e ed bt lm mm ud mk am re : Addr} {wd ht : Int} {T T2 : Nat → Tok} {ys : List Value} {nr : Nat} {msg : List Nat} {wn : Value} {own : List (Addr × Obj)}
    (B : Below A₀ base outer h₀) (F : Fr h₀ L s.heap m) (X : (Mine.fr.heap_1_1 w.params).In h₀) (N : News h₀ L s.heap ((rs, listOf ys.toArray nr) :: own)) (TT : Top p loose mean mg mb h₀)
    (mx : (x, instObj 842 md) ∈ own) (mmd : (md, matO w.params T wd ht rs cu) ∈ own) (me : (e, instObj 810 ed) ∈ own) (med : (ed, edO w.params T2 bt lm mm ud mk am re wn (txt msg)) ∈ own)
    (hoff : ∀ p ∈ own, p.1 ≠ rs) (hyl : ys.length = ht.toNat) (hy : ∀ y ∈ ys, ∃ r : Addr, y = .ref r ∧ (r, rowV wd) ∈ own) (hm : msg.length ≤ 11)
    (hw1 : 2 ≤ wd) (hw2 : wd ≤ 9) (hh1 : 2 ≤ ht) (hh2 : ht ≤ 3)
    (hd : dp + 10 < recursionLimit) (hu : un + 300 < cLine)
    (ret : ∀ ys' own' h' tk', (∀ p ∈ own, p ∈ own') → (∀ p ∈ own', p.1 ≠ rs) → Paired (RowIs own') ys' (rowsL wd ht msg) → Fr h₀ L h' m → News h₀ L h' ((rs, listOf (List.toArray ys') nr) :: own') → Q .none { s with heap := h', toks := tk' }) :
    wpAny (model prog w) (ktrTop dp un gd cn ⟨.function, cnm, cg, cc, cm⟩ L a ccd cl outer) (call (.ref (132 : Nat)) [.ref x, .ref e]) Q E s := by
  refine Mine.unwrap ?_
  simp (disch := k_dflt (
  have _h : PySem.Challenge.rw_on0075_01 = PySem.Challenge.rw_on0075_01 ∧ Mine.fr.heap_1_1 = Mine.fr.heap_1_1 := by (k_fill; exact ⟨rfl, rfl⟩)
  clear _h
  w_top off
  repeat' ((fail_if_success (with_reducible show Mine.StrSrc _ _ _ _ _ _ _ _ _ _ _ _ _ _)); ((first | ((fail_if_success (fail_if_success k_unfold)); (first | (with_reducible refine (?_ : wpAny _ _ _ _ _ _)) | (k_unfold; (try dsimp only)))) | ((fail_if_success (fail_if_success k_fold)); (first | (goal_has PySem.exec; (fail_if_success (fail_if_success (with_reducible show wpAny _ _ (exec _ _) _ _ _)))) | (goal_has PySem.Expr.BoolOp; (fail_if_success (fail_if_success (with_reducible show wpAny _ _ (eval (PySem.Expr.BoolOp _ _ _) _) _ _ _)))) | (goal_has PySem.Expr.Call; (fail_if_success (fail_if_success (with_reducible show wpAny _ _ (eval (PySem.Expr.Call _ _ _ _) _) _ _ _)))) | (goal_has PySem.Expr.Compare; (fail_if_success (fail_if_success (with_reducible show wpAny _ _ (eval (PySem.Expr.Compare _ _ _ _) _) _ _ _))))); (with_reducible refine Mine.wp_fold ?_); intro zqq zqe) | (goal_has PySem.Shared.mk; (with_reducible refine Mine.st_let ?_); intro zqs; goal_lacks PySem.Shared.mk) | ((ctx_mentions ite List.lookup); (rename Fr _ _ _ _ => zqF9); revert zqF9; (goal_has ite List.lookup); (with_reducible refine Mine.fr_let ?_); intro zqm; goal_lacks ite List.lookup; intro zqF) | ((ctx_mentions List.cons HAppend.hAppend List.append); (rename News _ _ _ _ => zqN9); (fail_if_success (fail_if_success (conv at zqN9 => arg 4; arg 2))); (with_reducible refine Mine.news_let zqN9 ?_); intro zql zqN; clear zqN9) | (k_end; wrow_close) | (goal_has PySem.Value.builtin; ((fail_if_success (fail_if_success (with_reducible show wpAny _ _ (call (Value.builtin "len") [Value.ref _]) _ _ _))); k_dflt (refine' kst_len (by k_asm) (by k_mem) (by exact rfl) (by omega) ?_; k_whole))) | (goal_has setItem; ((fail_if_success (fail_if_success (with_reducible show wpAny _ _ (setItem (Value.ref _) (Value.int _ _) (Value.ref _)) _ _ _))); k_dflt (refine' Mine.val_set (by k_asm) (by k_asm) (by k_upd) (by omega) (by omega) (by omega) ?_); intro zqh' zqF' zqN'; (try dsimp only at zqN'); (try k_sweep))) | (goal_has binaryOp; ((fail_if_success (fail_if_success (with_reducible show wpAny _ _ (binaryOp _ (Value.ref _) (Value.ref _)) _ _ _))); k_dflt (refine' Mine.val_add (by k_asm) (by k_asm) (by k_mem) (by k_mem) (by ((try simp only [List.length_replicate, List.length_take, List.length_drop, List.length_append]); omega)) ?_); intro zqD' zqh' zqF' zqN' zql1; (try k_lt zql1); (try k_sweep))) | (goal_has subscriptTail; first | ((fail_if_success (fail_if_success (with_reducible show wpAny _ _ (subscriptTail _ (PySem.Expr.Slice _ none none _) (Value.ref _) (Value.ref _)) _ _ _))); k_dflt (refine' Mine.val_from (by k_asm) (by k_asm) (by k_mem) (by exact IsPart.int _ _) (by first | decide | omega) (by ((try simp only [List.length_replicate]); omega)) ?_ (by with_unfolding_all rfl) (by kmk_pure)); intro zqD' zqh' zqF' zqN' zql1; (try k_lt zql1); (try k_sweep)) | ((fail_if_success (fail_if_success (with_reducible show wpAny _ _ (subscriptTail _ (PySem.Expr.Slice none _ none _) (Value.ref _) (Value.ref _)) _ _ _))); k_dflt (refine' Mine.val_upto (by k_asm) (by k_asm) (by k_mem) (by exact IsPart.int _ _) (by first | decide | omega) (by ((try simp only [List.length_replicate]); omega)) ?_ (by with_unfolding_all rfl) (by kmk_pure)); intro zqD' zqh' zqF' zqN' zql1; (try k_lt zql1); (try k_sweep)) | ((fail_if_success (fail_if_success (with_reducible show wpAny _ _ (subscriptTail _ _ (Value.ref _) (Value.int _ _)) _ _ _))); k_dflt (refine' Mine.val_row (by k_asm) (by k_mem) (by assumption) (by omega) (by omega) (by omega) ?_); intro zqr' zqhr')) | (goal_has PySem.Expr.ListComp; ((fail_if_success (fail_if_success (with_reducible show wpAny _ _ (eval (PySem.Expr.ListComp (PySem.Expr.Tuple _ _ _) _ _ _) _) _ _ _))); k_dflt (refine Mine.ListComp_S (F₀ := by k_asm) (by rfl) (by decide) (by rfl) (by decide) (by rfl) ?_))) | (goal_has call; (fail_if_success (fail_if_success (with_reducible show wpAny _ _ (call (Value.ref _) _ _) _ _ _))); first | ((fail_if_success (fail_if_success (with_reducible show wpAny _ _ (call (Value.ref (127 : Nat)) [Value.ref _]) _ _ _))); k_dflt (refine' Mine.echoof_ok (by k_asm) (by k_asm) (by k_asm) (by k_asm) (by k_asm) (by k_mem) (by k_mem) (by ktr_room) (by ktr_units) ?_); intro zqtp' zqt' zqn' zqh' zqtk' zql1 zqF' zqN'; (try k_lt zql1); (try k_sweep); (try dsimp only); (try ((fail_if_success (fail_if_success k_fold)); (with_reducible refine Mine.wp_fold ?_); intro zqq zqe))) | (k_dflt (first | (refine' call_cls0 (by k_asm) (by k_asm) (by k_asm) (by k_is) (by k_is) ?_; k_whole; intro zqx zqd zqh zqF zqN zql1 zql2; (try ((have zqU := Mine.lts_up zql1 zql2); (dsimp +zetaDelta only [List.map] at zqU))); (try k_lt zql1); (try k_lt2 zql2); (try k_sweep)) | ((first | (refine' call_cls (by k_asm) (by k_asm) (by k_asm) (by k_is) (by k_is) (by k_is) ?_; k_whole; intro zqx zqd zqh zqF zqN zql1 zql2; (try ((have zqU := Mine.lts_up zql1 zql2); (dsimp +zetaDelta only [List.map] at zqU))); (try k_lt zql1); (try k_lt2 zql2); (try k_sweep)) | (refine' Mine.call_fn (by k_asm) (by k_is) ?_; k_whole) | (refine' call_meth (by k_asm) (by k_mem) ?_; k_whole) | refine wpAny_call ?_); (first | (refine' code_defL (by exact rfl) (by exact rfl) (by first | exact rfl | assumption) (by k_asm) (by k_asm) (by k_asm) (by k_asm) (by k_asm) (by k_is) (by k_is) (by decide) (by ktr_room) (by first | exact BindsTo.of_eq rfl | exact binds_K (by k_in) rfl (by k_is) rfl rfl rfl) (by exact locs rfl) (by exact rfl) (by exact rfl) (by exact rfl) ?_; k_whole; intro zqg zqL zqh zqtk zqFG zqF zqN zqB zqX zqT zqe zqA; (try k_lift zqB); (try ((fail_if_success (fail_if_success k_fold)); (with_reducible refine Mine.wp_fold ?_); intro zqq zqe))) | (refine' code_defCL (by exact rfl) (by exact rfl) (by exact rfl) (by k_asm) (by k_asm) (by k_asm) (by k_asm) (by k_asm) (by k_is) (by k_is) (by ktr_room) (by first | exact BindsTo.of_eq rfl | exact binds_K (by k_in) rfl (by k_is) rfl rfl rfl) (by exact rfl) (by decide +kernel) (by exact rfl) (by exact rfl) (by exact rfl) ?_; k_whole; intro zqg zqL zqh zqtk zqcells zqFG zqF zqN zqY zqB zqX zqT zql1 zqe zqA; (try k_lt zql1); k_cells zqY; (try simp only [List.cons_append, List.nil_append] at zqN); (try dsimp only); (try k_lift zqB); (try ((fail_if_success (fail_if_success k_fold)); (with_reducible refine Mine.wp_fold ?_); intro zqq zqe)))))))) | walk1 | (dsimp only; walk1) | ((with_reducible show wpAny _ _ _ _ _ _); dsimp only) | (leave1; walk_say "STEP leave1"; (first | (with_reducible refine (?_ : wpAny _ _ _ _ _ _)) | try dsimp only)))))
  rw [txt_upto _ (by omega)]
  rename Fr _ _ _ _ => F9
  rename News _ _ _ _ => N9
  refine' StrSrc.intro rfl F9 (cb_drop N9 (fun q hq => .tail _ hq)) ?sz ?_
  case sz => (rw [sizeLine_eq]; simp; omega)
  intro g9
  refine' comp_led (σ := List (Addr × Obj)) (fun c => (rs, listOf ys.toArray nr) :: c) (fun i zs c => (∀ p ∈ own, p ∈ c) ∧ (∀ p ∈ c, p.1 ≠ rs) ∧ Paired (CellIs c) zs ((msg.take wd.toNat).take i)) own ⟨fun p h => h, hoff, .nil⟩ ?turn ?fin
  case turn =>
    intro i zs c v I oI C oC D m₂ h tk E' hin hyl9 hj hP hC hx F' N' off ne
    try dsimp only at *
    obtain ⟨hj1, hj2, hj3⟩ := hj
    obtain ⟨k9, u9, hk9, rfl⟩ := hP
    have off2 := off
    simp only [LCg.Off3, and_true] at off
    repeat' ((first | ((fail_if_success (fail_if_success k_unfold)); (first | (with_reducible refine (?_ : wpAny _ _ _ _ _ _)) | (k_unfold; (try dsimp only)))) | ((fail_if_success (fail_if_success k_fold)); (first | (goal_has PySem.exec; (fail_if_success (fail_if_success (with_reducible show wpAny _ _ (exec _ _) _ _ _)))) | (goal_has PySem.Expr.BoolOp; (fail_if_success (fail_if_success (with_reducible show wpAny _ _ (eval (PySem.Expr.BoolOp _ _ _) _) _ _ _)))) | (goal_has PySem.Expr.Call; (fail_if_success (fail_if_success (with_reducible show wpAny _ _ (eval (PySem.Expr.Call _ _ _ _) _) _ _ _)))) | (goal_has PySem.Expr.Compare; (fail_if_success (fail_if_success (with_reducible show wpAny _ _ (eval (PySem.Expr.Compare _ _ _ _) _) _ _ _))))); (with_reducible refine Mine.wp_fold ?_); intro zqq zqe) | (goal_has PySem.Shared.mk; (with_reducible refine Mine.st_let ?_); intro zqs; goal_lacks PySem.Shared.mk) | ((ctx_mentions ite List.lookup); (rename Fr _ _ _ _ => zqF9); revert zqF9; (goal_has ite List.lookup); (with_reducible refine Mine.fr_let ?_); intro zqm; goal_lacks ite List.lookup; intro zqF) | ((ctx_mentions List.cons HAppend.hAppend List.append); (rename News _ _ _ _ => zqN9); (fail_if_success (fail_if_success (conv at zqN9 => arg 4; arg 2))); (with_reducible refine Mine.news_let zqN9 ?_); intro zql zqN; clear zqN9) | (k_end; wrow_close) | (goal_has PySem.Value.builtin; ((fail_if_success (fail_if_success (with_reducible show wpAny _ _ (call (Value.builtin "len") [Value.ref _]) _ _ _))); k_dflt (refine' kst_len (by k_asm) (by k_mem) (by exact rfl) (by omega) ?_; k_whole))) | (goal_has setItem; ((fail_if_success (fail_if_success (with_reducible show wpAny _ _ (setItem (Value.ref _) (Value.int _ _) (Value.ref _)) _ _ _))); k_dflt (refine' Mine.val_set (by k_asm) (by k_asm) (by k_upd) (by omega) (by omega) (by omega) ?_); intro zqh' zqF' zqN'; (try dsimp only at zqN'); (try k_sweep))) | (goal_has binaryOp; ((fail_if_success (fail_if_success (with_reducible show wpAny _ _ (binaryOp _ (Value.ref _) (Value.ref _)) _ _ _))); k_dflt (refine' Mine.val_add (by k_asm) (by k_asm) (by k_mem) (by k_mem) (by ((try simp only [List.length_replicate, List.length_take, List.length_drop, List.length_append]); omega)) ?_); intro zqD' zqh' zqF' zqN' zql1; (try k_lt zql1); (try k_sweep))) | (goal_has subscriptTail; first | ((fail_if_success (fail_if_success (with_reducible show wpAny _ _ (subscriptTail _ (PySem.Expr.Slice _ none none _) (Value.ref _) (Value.ref _)) _ _ _))); k_dflt (refine' Mine.val_from (by k_asm) (by k_asm) (by k_mem) (by exact IsPart.int _ _) (by first | decide | omega) (by ((try simp only [List.length_replicate]); omega)) ?_ (by with_unfolding_all rfl) (by kmk_pure)); intro zqD' zqh' zqF' zqN' zql1; (try k_lt zql1); (try k_sweep)) | ((fail_if_success (fail_if_success (with_reducible show wpAny _ _ (subscriptTail _ (PySem.Expr.Slice none _ none _) (Value.ref _) (Value.ref _)) _ _ _))); k_dflt (refine' Mine.val_upto (by k_asm) (by k_asm) (by k_mem) (by exact IsPart.int _ _) (by first | decide | omega) (by ((try simp only [List.length_replicate]); omega)) ?_ (by with_unfolding_all rfl) (by kmk_pure)); intro zqD' zqh' zqF' zqN' zql1; (try k_lt zql1); (try k_sweep)) | ((fail_if_success (fail_if_success (with_reducible show wpAny _ _ (subscriptTail _ _ (Value.ref _) (Value.int _ _)) _ _ _))); k_dflt (refine' Mine.val_row (by k_asm) (by k_mem) (by assumption) (by omega) (by omega) (by omega) ?_); intro zqr' zqhr')) | (goal_has PySem.Expr.ListComp; ((fail_if_success (fail_if_success (with_reducible show wpAny _ _ (eval (PySem.Expr.ListComp (PySem.Expr.Tuple _ _ _) _ _ _) _) _ _ _))); k_dflt (refine Mine.ListComp_S (F₀ := by k_asm) (by rfl) (by decide) (by rfl) (by decide) (by rfl) ?_))) | (goal_has call; (fail_if_success (fail_if_success (with_reducible show wpAny _ _ (call (Value.ref _) _ _) _ _ _))); first | ((fail_if_success (fail_if_success (with_reducible show wpAny _ _ (call (Value.ref (127 : Nat)) [Value.ref _]) _ _ _))); k_dflt (refine' Mine.echoof_ok (by k_asm) (by k_asm) (by k_asm) (by k_asm) (by k_asm) (by k_mem) (by k_mem) (by ktr_room) (by ktr_units) ?_); intro zqtp' zqt' zqn' zqh' zqtk' zql1 zqF' zqN'; (try k_lt zql1); (try k_sweep); (try dsimp only); (try ((fail_if_success (fail_if_success k_fold)); (with_reducible refine Mine.wp_fold ?_); intro zqq zqe))) | (k_dflt (first | (refine' call_cls0 (by k_asm) (by k_asm) (by k_asm) (by k_is) (by k_is) ?_; k_whole; intro zqx zqd zqh zqF zqN zql1 zql2; (try ((have zqU := Mine.lts_up zql1 zql2); (dsimp +zetaDelta only [List.map] at zqU))); (try k_lt zql1); (try k_lt2 zql2); (try k_sweep)) | ((first | (refine' call_cls (by k_asm) (by k_asm) (by k_asm) (by k_is) (by k_is) (by k_is) ?_; k_whole; intro zqx zqd zqh zqF zqN zql1 zql2; (try ((have zqU := Mine.lts_up zql1 zql2); (dsimp +zetaDelta only [List.map] at zqU))); (try k_lt zql1); (try k_lt2 zql2); (try k_sweep)) | (refine' Mine.call_fn (by k_asm) (by k_is) ?_; k_whole) | (refine' call_meth (by k_asm) (by k_mem) ?_; k_whole) | refine wpAny_call ?_); (first | (refine' code_defL (by exact rfl) (by exact rfl) (by first | exact rfl | assumption) (by k_asm) (by k_asm) (by k_asm) (by k_asm) (by k_asm) (by k_is) (by k_is) (by decide) (by ktr_room) (by first | exact BindsTo.of_eq rfl | exact binds_K (by k_in) rfl (by k_is) rfl rfl rfl) (by exact locs rfl) (by exact rfl) (by exact rfl) (by exact rfl) ?_; k_whole; intro zqg zqL zqh zqtk zqFG zqF zqN zqB zqX zqT zqe zqA; (try k_lift zqB); (try ((fail_if_success (fail_if_success k_fold)); (with_reducible refine Mine.wp_fold ?_); intro zqq zqe))) | (refine' code_defCL (by exact rfl) (by exact rfl) (by exact rfl) (by k_asm) (by k_asm) (by k_asm) (by k_asm) (by k_asm) (by k_is) (by k_is) (by ktr_room) (by first | exact BindsTo.of_eq rfl | exact binds_K (by k_in) rfl (by k_is) rfl rfl rfl) (by exact rfl) (by decide +kernel) (by exact rfl) (by exact rfl) (by exact rfl) ?_; k_whole; intro zqg zqL zqh zqtk zqcells zqFG zqF zqN zqY zqB zqX zqT zql1 zqe zqA; (try k_lt zql1); k_cells zqY; (try simp only [List.cons_append, List.nil_append] at zqN); (try dsimp only); (try k_lift zqB); (try ((fail_if_success (fail_if_success k_fold)); (with_reducible refine Mine.wp_fold ?_); intro zqq zqe)))))))) | walk1 | (dsimp only; walk1) | ((with_reducible show wpAny _ _ _ _ _ _); dsimp only) | (leave1; walk_say "STEP leave1"; (first | (with_reducible refine (?_ : wpAny _ _ _ _ _ _)) | try dsimp only))))
    rename Fr _ _ _ _ => F9
    rename News _ _ _ _ => N9
    have hk8 : (msg.take wd.toNat)[i]? = some k9 := by simpa using hk9
    refine ⟨_, _, (_, cellO (k9 : Int) _ _ _) :: c, rfl, F9, cb_drop N9 (List.forall_mem_cons.mpr ⟨.tail _ (.head _), List.forall_mem_cons.mpr ⟨.tail _ (.tail _ (.head _)), List.forall_mem_cons.mpr ⟨.tail _ (.tail _ (.tail _ (.head _))),
        List.forall_mem_cons.mpr ⟨.tail _ (.tail _ (.tail _ (.tail _ (.head _)))), List.forall_mem_cons.mpr ⟨.head _, fun q hq => .tail _ (.tail _ (.tail _ (.tail _ (.tail _ hq))))⟩⟩⟩⟩⟩),
      ⟨off2.1, ⟨by k_ne, by k_ne, by k_ne⟩, off2.2⟩, trivial, fun q hq => .tail _ (hj1 q hq), List.forall_mem_cons.mpr ⟨by k_ne, hj2⟩, ?_⟩
    rw [get_split hk8]
    exact (paired_imp (fun _ _ h => h.sub fun q hq => .tail _ hq) hj3).snoc ⟨_, rfl, .inr ⟨_, _, _, .head _⟩⟩
  case fin =>
    intro zs c hyl9 hj D' h' tk' F' N' off1'
    obtain ⟨hj1, hj2, hj3⟩ := hj
    have off2 := off1'
    have mx' := hj1 _ mx
    have mmd' := hj1 _ mmd
    have hy' : ∀ y ∈ ys, ∃ r : Addr, y = .ref r ∧ (r, rowV wd) ∈ c := fun y hm => by
      obtain ⟨r, e1, h1⟩ := hy y hm
      exact ⟨r, e1, hj1 _ h1⟩
    have hzl : zs.length ≤ 9 := by
      rw [hyl9]
      simp
      omega
    (try (dsimp only at *)); (try (simp only [LCg.Off1, and_true] at off1')); (try ((fail_if_success (fail_if_success k_fold)); (with_reducible refine Mine.wp_fold ?_); intro zqq zqe))
    repeat' ((first | ((fail_if_success (fail_if_success k_unfold)); (first | (with_reducible refine (?_ : wpAny _ _ _ _ _ _)) | (k_unfold; (try dsimp only)))) | ((fail_if_success (fail_if_success k_fold)); (first | (goal_has PySem.exec; (fail_if_success (fail_if_success (with_reducible show wpAny _ _ (exec _ _) _ _ _)))) | (goal_has PySem.Expr.BoolOp; (fail_if_success (fail_if_success (with_reducible show wpAny _ _ (eval (PySem.Expr.BoolOp _ _ _) _) _ _ _)))) | (goal_has PySem.Expr.Call; (fail_if_success (fail_if_success (with_reducible show wpAny _ _ (eval (PySem.Expr.Call _ _ _ _) _) _ _ _)))) | (goal_has PySem.Expr.Compare; (fail_if_success (fail_if_success (with_reducible show wpAny _ _ (eval (PySem.Expr.Compare _ _ _ _) _) _ _ _))))); (with_reducible refine Mine.wp_fold ?_); intro zqq zqe) | (goal_has PySem.Shared.mk; (with_reducible refine Mine.st_let ?_); intro zqs; goal_lacks PySem.Shared.mk) | ((ctx_mentions ite List.lookup); (rename Fr _ _ _ _ => zqF9); revert zqF9; (goal_has ite List.lookup); (with_reducible refine Mine.fr_let ?_); intro zqm; goal_lacks ite List.lookup; intro zqF) | ((ctx_mentions List.cons HAppend.hAppend List.append); (rename News _ _ _ _ => zqN9); (fail_if_success (fail_if_success (conv at zqN9 => arg 4; arg 2))); (with_reducible refine Mine.news_let zqN9 ?_); intro zql zqN; clear zqN9) | (k_end; wrow_close) | (goal_has PySem.Value.builtin; ((fail_if_success (fail_if_success (with_reducible show wpAny _ _ (call (Value.builtin "len") [Value.ref _]) _ _ _))); k_dflt (refine' kst_len (by k_asm) (by k_mem) (by exact rfl) (by omega) ?_; k_whole))) | (goal_has setItem; ((fail_if_success (fail_if_success (with_reducible show wpAny _ _ (setItem (Value.ref _) (Value.int _ _) (Value.ref _)) _ _ _))); k_dflt (refine' Mine.val_set (by k_asm) (by k_asm) (by k_upd) (by omega) (by omega) (by omega) ?_); intro zqh' zqF' zqN'; (try dsimp only at zqN'); (try k_sweep))) | (goal_has binaryOp; ((fail_if_success (fail_if_success (with_reducible show wpAny _ _ (binaryOp _ (Value.ref _) (Value.ref _)) _ _ _))); k_dflt (refine' Mine.val_add (by k_asm) (by k_asm) (by k_mem) (by k_mem) (by ((try simp only [List.length_replicate, List.length_take, List.length_drop, List.length_append]); omega)) ?_); intro zqD' zqh' zqF' zqN' zql1; (try k_lt zql1); (try k_sweep))) | (goal_has subscriptTail; first | ((fail_if_success (fail_if_success (with_reducible show wpAny _ _ (subscriptTail _ (PySem.Expr.Slice _ none none _) (Value.ref _) (Value.ref _)) _ _ _))); k_dflt (refine' Mine.val_from (by k_asm) (by k_asm) (by k_mem) (by exact IsPart.int _ _) (by first | decide | omega) (by ((try simp only [List.length_replicate]); omega)) ?_ (by with_unfolding_all rfl) (by kmk_pure)); intro zqD' zqh' zqF' zqN' zql1; (try k_lt zql1); (try k_sweep)) | ((fail_if_success (fail_if_success (with_reducible show wpAny _ _ (subscriptTail _ (PySem.Expr.Slice none _ none _) (Value.ref _) (Value.ref _)) _ _ _))); k_dflt (refine' Mine.val_upto (by k_asm) (by k_asm) (by k_mem) (by exact IsPart.int _ _) (by first | decide | omega) (by ((try simp only [List.length_replicate]); omega)) ?_ (by with_unfolding_all rfl) (by kmk_pure)); intro zqD' zqh' zqF' zqN' zql1; (try k_lt zql1); (try k_sweep)) | ((fail_if_success (fail_if_success (with_reducible show wpAny _ _ (subscriptTail _ _ (Value.ref _) (Value.int _ _)) _ _ _))); k_dflt (refine' Mine.val_row (by k_asm) (by k_mem) (by assumption) (by omega) (by omega) (by omega) ?_); intro zqr' zqhr')) | (goal_has PySem.Expr.ListComp; ((fail_if_success (fail_if_success (with_reducible show wpAny _ _ (eval (PySem.Expr.ListComp (PySem.Expr.Tuple _ _ _) _ _ _) _) _ _ _))); k_dflt (refine Mine.ListComp_S (F₀ := by k_asm) (by rfl) (by decide) (by rfl) (by decide) (by rfl) ?_))) | (goal_has call; (fail_if_success (fail_if_success (with_reducible show wpAny _ _ (call (Value.ref _) _ _) _ _ _))); first | ((fail_if_success (fail_if_success (with_reducible show wpAny _ _ (call (Value.ref (127 : Nat)) [Value.ref _]) _ _ _))); k_dflt (refine' Mine.echoof_ok (by k_asm) (by k_asm) (by k_asm) (by k_asm) (by k_asm) (by k_mem) (by k_mem) (by ktr_room) (by ktr_units) ?_); intro zqtp' zqt' zqn' zqh' zqtk' zql1 zqF' zqN'; (try k_lt zql1); (try k_sweep); (try dsimp only); (try ((fail_if_success (fail_if_success k_fold)); (with_reducible refine Mine.wp_fold ?_); intro zqq zqe))) | (k_dflt (first | (refine' call_cls0 (by k_asm) (by k_asm) (by k_asm) (by k_is) (by k_is) ?_; k_whole; intro zqx zqd zqh zqF zqN zql1 zql2; (try ((have zqU := Mine.lts_up zql1 zql2); (dsimp +zetaDelta only [List.map] at zqU))); (try k_lt zql1); (try k_lt2 zql2); (try k_sweep)) | ((first | (refine' call_cls (by k_asm) (by k_asm) (by k_asm) (by k_is) (by k_is) (by k_is) ?_; k_whole; intro zqx zqd zqh zqF zqN zql1 zql2; (try ((have zqU := Mine.lts_up zql1 zql2); (dsimp +zetaDelta only [List.map] at zqU))); (try k_lt zql1); (try k_lt2 zql2); (try k_sweep)) | (refine' Mine.call_fn (by k_asm) (by k_is) ?_; k_whole) | (refine' call_meth (by k_asm) (by k_mem) ?_; k_whole) | refine wpAny_call ?_); (first | (refine' code_defL (by exact rfl) (by exact rfl) (by first | exact rfl | assumption) (by k_asm) (by k_asm) (by k_asm) (by k_asm) (by k_asm) (by k_is) (by k_is) (by decide) (by ktr_room) (by first | exact BindsTo.of_eq rfl | exact binds_K (by k_in) rfl (by k_is) rfl rfl rfl) (by exact locs rfl) (by exact rfl) (by exact rfl) (by exact rfl) ?_; k_whole; intro zqg zqL zqh zqtk zqFG zqF zqN zqB zqX zqT zqe zqA; (try k_lift zqB); (try ((fail_if_success (fail_if_success k_fold)); (with_reducible refine Mine.wp_fold ?_); intro zqq zqe))) | (refine' code_defCL (by exact rfl) (by exact rfl) (by exact rfl) (by k_asm) (by k_asm) (by k_asm) (by k_asm) (by k_asm) (by k_is) (by k_is) (by ktr_room) (by first | exact BindsTo.of_eq rfl | exact binds_K (by k_in) rfl (by k_is) rfl rfl rfl) (by exact rfl) (by decide +kernel) (by exact rfl) (by exact rfl) (by exact rfl) ?_; k_whole; intro zqg zqL zqh zqtk zqcells zqFG zqF zqN zqY zqB zqX zqT zql1 zqe zqA; (try k_lt zql1); k_cells zqY; (try simp only [List.cons_append, List.nil_append] at zqN); (try dsimp only); (try k_lift zqB); (try ((fail_if_success (fail_if_success k_fold)); (with_reducible refine Mine.wp_fold ?_); intro zqq zqe)))))))) | walk1 | (dsimp only; walk1) | ((with_reducible show wpAny _ _ _ _ _ _); dsimp only) | (leave1; walk_say "STEP leave1"; (first | (with_reducible refine (?_ : wpAny _ _ _ _ _ _)) | try dsimp only))))
    all_goals first | exact (Value.none : Value) | exact (Str.ofString "" : Str) | exact ((0 : Nat) : Addr) | skip
    rename Fr _ _ _ _ => F9
    rename News _ _ _ _ => N9
    have hz9 : Paired (CellIs c) zs (msg.take wd.toNat) := by
      have := hj3
      rw [List.size_toArray, List.take_length] at this
      exact this
    have sub9 : ∀ {o : Addr × Obj}, ∀ q ∈ c, q ∈ o :: c := fun q hq => .tail _ hq
    exact ret _ ((_, listOf (List.toArray _) 0) :: c) _ _ (fun q hq => .tail _ (hj1 q hq)) (List.forall_mem_cons.mpr ⟨by k_ne, hj2⟩)
      (rows_made hw1 hw2 hh1 hyl (fun y hm => by
        obtain ⟨r, e1, h1⟩ := hy' y hm
        exact ⟨r, e1, .tail _ h1⟩) (.head _) (paired_imp (fun _ _ h => h.sub sub9) hz9) (by simp))
      F9 (cb_drop N9 (List.forall_mem_cons.mpr ⟨.tail _ (.tail _ (.tail _ (.tail _ (.tail _ (.head _))))), List.forall_mem_cons.mpr ⟨.head _, fun q hq => .tail _ (.tail _ (.tail _ (.tail _ (.tail _ (.tail _ hq)))))⟩⟩))
  )) only [↓Mine.wrap_i]
end
theorem join_cons0 (x : Str) : ∀ r : List Str, Str.join (txt []) (x :: r) = x ++ Str.join (txt []) r
  | [] => Str.ext' (by show x.cps = x.cps ++ #[]; simp)
  | y :: r => Str.ext' (by show (x.cps ++ #[]) ++ (Str.join (txt []) (y :: r)).cps = x.cps ++ (Str.join (txt []) (y :: r)).cps; simp)
theorem join_txt : ∀ l : List Nat, Str.join (txt []) (l.map fun k => txt [k]) = txt l
  | [] => rfl
  | k :: l => by
    rw [List.map_cons, join_cons0, join_txt l]
    exact Str.ext' (by show #[k] ++ l.toArray = (k :: l).toArray; simp)
theorem strs_length : ∀ {vs : List Value} {ys : List Str}, StrsAre vs ys → vs.length = ys.length
  | _, _, .nil => rfl
  | _, _, .cons _ _ r => by rw [List.length_cons, List.length_cons, strs_length r]
theorem sum_ones : ∀ l : List Nat, (l.map ((fun x : Str => x.length) ∘ fun k => txt [k])).sum = l.length
  | [] => rfl
  | k :: l => by
    rw [List.map_cons, List.sum_cons, sum_ones l, List.length_cons, Nat.add_comm]
    rfl
section
variable {prog : Program} {w : World} {A : Around} {E : Value → Shared → Prop} {s : Shared} {Q : Value → Shared → Prop}
theorem rstrip_txt {l : List Nat} {t u : Tok} (hl : l.length ≤ 24) (h : ∀ t' k, Q (.str (txt (strp l)) t') { s with toks := k }) : wpAny (model prog w) A (call (.builtin "str.rstrip") [.str (txt l) t, .str (Str.ofString " ") u]) Q E s := by
  have e : Txt.rstripChars (txt l) (Str.ofString " ") = txt (strp l) := rstrip_eq l
  exact SC.rstripChars (fun t' k => e ▸ h t' k) (by rw [sizeLine_eq]; show l.toArray.size ≤ _; rw [List.size_toArray]; omega)
end
section
variable {prog : Program} {w : World} {p : Program} {loose : List Str} {mean : ExcName → Option Value} {mg mb : Str → Option Value} {dp un : Nat} {gd : Option (List Code)} {cn : Str} {cnm : List (Str × NameKind)} {cg cc : Bool} {cm : List (Str × Const)} {a : Addr} {ccd : Value} {cl : List (Str × Addr)} {outer : List Env} {A₀ : Around} {base h₀ : Heap} {L : Addr} {m : Str → Option Value} {s : Shared} {Q E : Value → Shared → Prop}

theorem texts_ok {x md rs cu : Addr} {wd ht : Int} {T : Nat → Tok} {ys : List Value} {nr : Nat} {rows : List (List Nat)} {own : List (Addr × Obj)}
    (B : Below A₀ base outer h₀) (F : Fr h₀ L s.heap m) (X : (Mine.fr.heap_1_1 w.params).In h₀) (N : News h₀ L s.heap own) (TT : Top p loose mean mg mb h₀)
    (mx : (x, instObj 842 md) ∈ own) (mmd : (md, matO w.params T wd ht rs cu) ∈ own) (mrs : (rs, listOf ys.toArray nr) ∈ own) (hp : Paired (RowIs own) ys rows) (hlen : rows.length ≤ 3) (hsm : ∀ l ∈ rows, ∀ k ∈ l, k < 128)
    (hd : dp + 10 < recursionLimit) (hu : un + 300 < cLine)
    (ret : ∀ D zs h' tk', StrsAre zs (rows.map fun l => txt (strp l)) → Fr h₀ L h' m → News h₀ L h' ((D, LCg.lst zs) :: own) → Q (.ref D) { s with heap := h', toks := tk' }) :
    wpAny (model prog w) (ktrTop dp un gd cn ⟨.function, cnm, cg, cc, cm⟩ L a ccd cl outer) (call (.ref (137 : Nat)) [.ref x]) Q E s := by
  refine Mine.unwrap ?_
  simp (disch := k_dflt (
  have _h : PySem.Challenge.rw_on0075_01 = PySem.Challenge.rw_on0075_01 ∧ Mine.fr.heap_1_1 = Mine.fr.heap_1_1 := by (k_fill; exact ⟨rfl, rfl⟩)
  clear _h
  w_top off
  have hyl : ys.length = rows.length := hp.length
  repeat' ((fail_if_success (with_reducible show LCg.CompSrc _ _ _ _ _ _ _ _ _ _ _ _ _ _)); (fail_if_success (with_reducible show Mine.CellSrc _ _ _ _ _ _ _ _ _ _ _ _ _)); ((first | ((fail_if_success (fail_if_success k_unfold)); (first | (with_reducible refine (?_ : wpAny _ _ _ _ _ _)) | (k_unfold; (try dsimp only)))) | ((fail_if_success (fail_if_success k_fold)); (first | (goal_has PySem.exec; (fail_if_success (fail_if_success (with_reducible show wpAny _ _ (exec _ _) _ _ _)))) | (goal_has PySem.Expr.BoolOp; (fail_if_success (fail_if_success (with_reducible show wpAny _ _ (eval (PySem.Expr.BoolOp _ _ _) _) _ _ _)))) | (goal_has PySem.Expr.Call; (fail_if_success (fail_if_success (with_reducible show wpAny _ _ (eval (PySem.Expr.Call _ _ _ _) _) _ _ _)))) | (goal_has PySem.Expr.Compare; (fail_if_success (fail_if_success (with_reducible show wpAny _ _ (eval (PySem.Expr.Compare _ _ _ _) _) _ _ _))))); (with_reducible refine Mine.wp_fold ?_); intro zqq zqe) | (goal_has PySem.Shared.mk; (with_reducible refine Mine.st_let ?_); intro zqs; goal_lacks PySem.Shared.mk) | ((ctx_mentions ite List.lookup); (rename Fr _ _ _ _ => zqF9); revert zqF9; (goal_has ite List.lookup); (with_reducible refine Mine.fr_let ?_); intro zqm; goal_lacks ite List.lookup; intro zqF) | ((ctx_mentions List.cons HAppend.hAppend List.append); (rename News _ _ _ _ => zqN9); (fail_if_success (fail_if_success (conv at zqN9 => arg 4; arg 2))); (with_reducible refine Mine.news_let zqN9 ?_); intro zql zqN; clear zqN9) | (k_end; wrow_close) | (goal_has PySem.Expr.ListComp; first | ((fail_if_success (fail_if_success (with_reducible show wpAny _ _ (eval (PySem.Expr.ListComp (PySem.Expr.Call _ _ _ _) _ _ _) _) _ _ _))); lcp_look; k_dflt (refine Mine.cells_comp (F₀ := by k_asm) (hE := by assumption) (hoE := by rfl) (by with_unfolding_all rfl) (by decide) (by rfl) (by decide) (by rfl) (by rfl) (by decide) ?_)) | ((fail_if_success (fail_if_success (with_reducible show wpAny _ _ (eval (PySem.Expr.ListComp (PySem.Expr.Call (PySem.Expr.Attribute _ _ _) _ _ _) _ _ _) _) _ _ _))); k_dflt (refine LCg.ListComp_U (F₀ := by k_asm) (by rfl) (by decide) (by rfl) (by decide) (by rfl) ?_))) | (goal_has PySem.Value.builtin; ((fail_if_success (fail_if_success (with_reducible show wpAny _ _ (call (Value.builtin _) [Value.str (Mine.txt _) _, Value.str _ _]) _ _ _))); k_dflt (refine' Mine.rstrip_txt (by assumption) ?_); intro zqt' zqk')) | (goal_has call; (fail_if_success (fail_if_success (with_reducible show wpAny _ _ (call (Value.ref _) _ _) _ _ _))); first | (k_dflt (first | (refine' call_cls0 (by k_asm) (by k_asm) (by k_asm) (by k_is) (by k_is) ?_; k_whole; intro zqx zqd zqh zqF zqN zql1 zql2; (try ((have zqU := Mine.lts_up zql1 zql2); (dsimp +zetaDelta only [List.map] at zqU))); (try k_lt zql1); (try k_lt2 zql2); (try k_sweep)) | ((first | (refine' call_cls (by k_asm) (by k_asm) (by k_asm) (by k_is) (by k_is) (by k_is) ?_; k_whole; intro zqx zqd zqh zqF zqN zql1 zql2; (try ((have zqU := Mine.lts_up zql1 zql2); (dsimp +zetaDelta only [List.map] at zqU))); (try k_lt zql1); (try k_lt2 zql2); (try k_sweep)) | (refine' Mine.call_fn (by k_asm) (by k_is) ?_; k_whole) | (refine' call_meth (by k_asm) (by k_mem) ?_; k_whole) | refine wpAny_call ?_); (first | (refine' code_defL (by exact rfl) (by exact rfl) (by first | exact rfl | assumption) (by k_asm) (by k_asm) (by k_asm) (by k_asm) (by k_asm) (by k_is) (by k_is) (by decide) (by ktr_room) (by first | exact BindsTo.of_eq rfl | exact binds_K (by k_in) rfl (by k_is) rfl rfl rfl) (by exact locs rfl) (by exact rfl) (by exact rfl) (by exact rfl) ?_; k_whole; intro zqg zqL zqh zqtk zqFG zqF zqN zqB zqX zqT zqe zqA; (try k_lift zqB); (try ((fail_if_success (fail_if_success k_fold)); (with_reducible refine Mine.wp_fold ?_); intro zqq zqe))) | (refine' code_defCL (by exact rfl) (by exact rfl) (by exact rfl) (by k_asm) (by k_asm) (by k_asm) (by k_asm) (by k_asm) (by k_is) (by k_is) (by ktr_room) (by first | exact BindsTo.of_eq rfl | exact binds_K (by k_in) rfl (by k_is) rfl rfl rfl) (by exact rfl) (by decide +kernel) (by exact rfl) (by exact rfl) (by exact rfl) ?_; k_whole; intro zqg zqL zqh zqtk zqcells zqFG zqF zqN zqY zqB zqX zqT zql1 zqe zqA; (try k_lt zql1); k_cells zqY; (try simp only [List.cons_append, List.nil_append] at zqN); (try dsimp only); (try k_lift zqB); (try ((fail_if_success (fail_if_success k_fold)); (with_reducible refine Mine.wp_fold ?_); intro zqq zqe)))))))) | walk1 | (dsimp only; walk1) | ((with_reducible show wpAny _ _ _ _ _ _); dsimp only) | (leave1; walk_say "STEP leave1"; (first | (with_reducible refine (?_ : wpAny _ _ _ _ _ _)) | try dsimp only)))))
  rename Fr _ _ _ _ => F9
  rename News _ _ _ _ => N9
  rename Frag.In _ _ => X9
  obtain ⟨tE, uE, nE, hE⟩ := blank_at X9
  refine' LCg.CompSrc.ledger rfl F9 N9 mrs ?sz ?_
  case sz => (rw [List.size_toArray, sizeLine_eq]; omega)
  intro g9
  refine' comp_led (σ := Unit) (fun _ => own) (fun i zs _ => StrsAre zs ((rows.take i).map fun l => txt (strp l))) () .nil ?turn ?fin
  case turn =>
    intro i zs c v I oI C oC D m₂ h tk E' hin hyl9 hj hP hC hx F' N' off ne
    try dsimp only at *
    have hv' : ys[i]? = some v := by simpa using hP
    obtain ⟨l9, hl9, r9, ws9, n9, rfl, hm9, hp9, hz9⟩ := paired_get hp hv'
    have hl7 : l9 ∈ rows := List.mem_of_getElem? hl9
    repeat' ((fail_if_success (with_reducible show LCg.CompSrc _ _ _ _ _ _ _ _ _ _ _ _ _ _)); (fail_if_success (with_reducible show Mine.CellSrc _ _ _ _ _ _ _ _ _ _ _ _ _)); ((first | ((fail_if_success (fail_if_success k_unfold)); (first | (with_reducible refine (?_ : wpAny _ _ _ _ _ _)) | (k_unfold; (try dsimp only)))) | ((fail_if_success (fail_if_success k_fold)); (first | (goal_has PySem.exec; (fail_if_success (fail_if_success (with_reducible show wpAny _ _ (exec _ _) _ _ _)))) | (goal_has PySem.Expr.BoolOp; (fail_if_success (fail_if_success (with_reducible show wpAny _ _ (eval (PySem.Expr.BoolOp _ _ _) _) _ _ _)))) | (goal_has PySem.Expr.Call; (fail_if_success (fail_if_success (with_reducible show wpAny _ _ (eval (PySem.Expr.Call _ _ _ _) _) _ _ _)))) | (goal_has PySem.Expr.Compare; (fail_if_success (fail_if_success (with_reducible show wpAny _ _ (eval (PySem.Expr.Compare _ _ _ _) _) _ _ _))))); (with_reducible refine Mine.wp_fold ?_); intro zqq zqe) | (goal_has PySem.Shared.mk; (with_reducible refine Mine.st_let ?_); intro zqs; goal_lacks PySem.Shared.mk) | ((ctx_mentions ite List.lookup); (rename Fr _ _ _ _ => zqF9); revert zqF9; (goal_has ite List.lookup); (with_reducible refine Mine.fr_let ?_); intro zqm; goal_lacks ite List.lookup; intro zqF) | ((ctx_mentions List.cons HAppend.hAppend List.append); (rename News _ _ _ _ => zqN9); (fail_if_success (fail_if_success (conv at zqN9 => arg 4; arg 2))); (with_reducible refine Mine.news_let zqN9 ?_); intro zql zqN; clear zqN9) | (k_end; wrow_close) | (goal_has PySem.Expr.ListComp; first | ((fail_if_success (fail_if_success (with_reducible show wpAny _ _ (eval (PySem.Expr.ListComp (PySem.Expr.Call _ _ _ _) _ _ _) _) _ _ _))); lcp_look; k_dflt (refine Mine.cells_comp (F₀ := by k_asm) (hE := by assumption) (hoE := by rfl) (by with_unfolding_all rfl) (by decide) (by rfl) (by decide) (by rfl) (by rfl) (by decide) ?_)) | ((fail_if_success (fail_if_success (with_reducible show wpAny _ _ (eval (PySem.Expr.ListComp (PySem.Expr.Call (PySem.Expr.Attribute _ _ _) _ _ _) _ _ _) _) _ _ _))); k_dflt (refine LCg.ListComp_U (F₀ := by k_asm) (by rfl) (by decide) (by rfl) (by decide) (by rfl) ?_))) | (goal_has PySem.Value.builtin; ((fail_if_success (fail_if_success (with_reducible show wpAny _ _ (call (Value.builtin _) [Value.str (Mine.txt _) _, Value.str _ _]) _ _ _))); k_dflt (refine' Mine.rstrip_txt (by assumption) ?_); intro zqt' zqk')) | (goal_has call; (fail_if_success (fail_if_success (with_reducible show wpAny _ _ (call (Value.ref _) _ _) _ _ _))); first | (k_dflt (first | (refine' call_cls0 (by k_asm) (by k_asm) (by k_asm) (by k_is) (by k_is) ?_; k_whole; intro zqx zqd zqh zqF zqN zql1 zql2; (try ((have zqU := Mine.lts_up zql1 zql2); (dsimp +zetaDelta only [List.map] at zqU))); (try k_lt zql1); (try k_lt2 zql2); (try k_sweep)) | ((first | (refine' call_cls (by k_asm) (by k_asm) (by k_asm) (by k_is) (by k_is) (by k_is) ?_; k_whole; intro zqx zqd zqh zqF zqN zql1 zql2; (try ((have zqU := Mine.lts_up zql1 zql2); (dsimp +zetaDelta only [List.map] at zqU))); (try k_lt zql1); (try k_lt2 zql2); (try k_sweep)) | (refine' Mine.call_fn (by k_asm) (by k_is) ?_; k_whole) | (refine' call_meth (by k_asm) (by k_mem) ?_; k_whole) | refine wpAny_call ?_); (first | (refine' code_defL (by exact rfl) (by exact rfl) (by first | exact rfl | assumption) (by k_asm) (by k_asm) (by k_asm) (by k_asm) (by k_asm) (by k_is) (by k_is) (by decide) (by ktr_room) (by first | exact BindsTo.of_eq rfl | exact binds_K (by k_in) rfl (by k_is) rfl rfl rfl) (by exact locs rfl) (by exact rfl) (by exact rfl) (by exact rfl) ?_; k_whole; intro zqg zqL zqh zqtk zqFG zqF zqN zqB zqX zqT zqe zqA; (try k_lift zqB); (try ((fail_if_success (fail_if_success k_fold)); (with_reducible refine Mine.wp_fold ?_); intro zqq zqe))) | (refine' code_defCL (by exact rfl) (by exact rfl) (by exact rfl) (by k_asm) (by k_asm) (by k_asm) (by k_asm) (by k_asm) (by k_is) (by k_is) (by ktr_room) (by first | exact BindsTo.of_eq rfl | exact binds_K (by k_in) rfl (by k_is) rfl rfl rfl) (by exact rfl) (by decide +kernel) (by exact rfl) (by exact rfl) (by exact rfl) ?_; k_whole; intro zqg zqL zqh zqtk zqcells zqFG zqF zqN zqY zqB zqX zqT zql1 zqe zqA; (try k_lt zql1); k_cells zqY; (try simp only [List.cons_append, List.nil_append] at zqN); (try dsimp only); (try k_lift zqB); (try ((fail_if_success (fail_if_success k_fold)); (with_reducible refine Mine.wp_fold ?_); intro zqq zqe)))))))) | walk1 | (dsimp only; walk1) | ((with_reducible show wpAny _ _ _ _ _ _); dsimp only) | (leave1; walk_say "STEP leave1"; (first | (with_reducible refine (?_ : wpAny _ _ _ _ _ _)) | try dsimp only)))))
    rename Fr _ _ _ _ => F8
    rename News _ _ _ _ => N8
    refine' ⟨r9, ws9, n9, l9, _, rfl, rfl, F8, N8, .tail _ (.tail _ (.tail _ hm9)), hz9, paired_imp (fun _ _ h => h.sub fun q hq => .tail _ (.tail _ (.tail _ hq))) hp9, ?tn, ?fn⟩
    case tn =>
      intro k8 t8 I8 oI8 C8 oC8 D8 m8 h8 tk8 ys8 E8 hk8 hC8 hx8 F7 N7
      have hk7 := hsm l9 hl7 k8 hk8
      repeat' ((first | ((fail_if_success (fail_if_success k_unfold)); (first | (with_reducible refine (?_ : wpAny _ _ _ _ _ _)) | (k_unfold; (try dsimp only)))) | ((fail_if_success (fail_if_success k_fold)); (first | (goal_has PySem.exec; (fail_if_success (fail_if_success (with_reducible show wpAny _ _ (exec _ _) _ _ _)))) | (goal_has PySem.Expr.BoolOp; (fail_if_success (fail_if_success (with_reducible show wpAny _ _ (eval (PySem.Expr.BoolOp _ _ _) _) _ _ _)))) | (goal_has PySem.Expr.Call; (fail_if_success (fail_if_success (with_reducible show wpAny _ _ (eval (PySem.Expr.Call _ _ _ _) _) _ _ _)))) | (goal_has PySem.Expr.Compare; (fail_if_success (fail_if_success (with_reducible show wpAny _ _ (eval (PySem.Expr.Compare _ _ _ _) _) _ _ _))))); (with_reducible refine Mine.wp_fold ?_); intro zqq zqe) | (goal_has PySem.Shared.mk; (with_reducible refine Mine.st_let ?_); intro zqs; goal_lacks PySem.Shared.mk) | ((ctx_mentions ite List.lookup); (rename Fr _ _ _ _ => zqF9); revert zqF9; (goal_has ite List.lookup); (with_reducible refine Mine.fr_let ?_); intro zqm; goal_lacks ite List.lookup; intro zqF) | ((ctx_mentions List.cons HAppend.hAppend List.append); (rename News _ _ _ _ => zqN9); (fail_if_success (fail_if_success (conv at zqN9 => arg 4; arg 2))); (with_reducible refine Mine.news_let zqN9 ?_); intro zql zqN; clear zqN9) | (k_end; wrow_close) | (goal_has PySem.Expr.ListComp; first | ((fail_if_success (fail_if_success (with_reducible show wpAny _ _ (eval (PySem.Expr.ListComp (PySem.Expr.Call _ _ _ _) _ _ _) _) _ _ _))); lcp_look; k_dflt (refine Mine.cells_comp (F₀ := by k_asm) (hE := by assumption) (hoE := by rfl) (by with_unfolding_all rfl) (by decide) (by rfl) (by decide) (by rfl) (by rfl) (by decide) ?_)) | ((fail_if_success (fail_if_success (with_reducible show wpAny _ _ (eval (PySem.Expr.ListComp (PySem.Expr.Call (PySem.Expr.Attribute _ _ _) _ _ _) _ _ _) _) _ _ _))); k_dflt (refine LCg.ListComp_U (F₀ := by k_asm) (by rfl) (by decide) (by rfl) (by decide) (by rfl) ?_))) | (goal_has PySem.Value.builtin; ((fail_if_success (fail_if_success (with_reducible show wpAny _ _ (call (Value.builtin _) [Value.str (Mine.txt _) _, Value.str _ _]) _ _ _))); k_dflt (refine' Mine.rstrip_txt (by assumption) ?_); intro zqt' zqk')) | (goal_has call; (fail_if_success (fail_if_success (with_reducible show wpAny _ _ (call (Value.ref _) _ _) _ _ _))); first | (k_dflt (first | (refine' call_cls0 (by k_asm) (by k_asm) (by k_asm) (by k_is) (by k_is) ?_; k_whole; intro zqx zqd zqh zqF zqN zql1 zql2; (try ((have zqU := Mine.lts_up zql1 zql2); (dsimp +zetaDelta only [List.map] at zqU))); (try k_lt zql1); (try k_lt2 zql2); (try k_sweep)) | ((first | (refine' call_cls (by k_asm) (by k_asm) (by k_asm) (by k_is) (by k_is) (by k_is) ?_; k_whole; intro zqx zqd zqh zqF zqN zql1 zql2; (try ((have zqU := Mine.lts_up zql1 zql2); (dsimp +zetaDelta only [List.map] at zqU))); (try k_lt zql1); (try k_lt2 zql2); (try k_sweep)) | (refine' Mine.call_fn (by k_asm) (by k_is) ?_; k_whole) | (refine' call_meth (by k_asm) (by k_mem) ?_; k_whole) | refine wpAny_call ?_); (first | (refine' code_defL (by exact rfl) (by exact rfl) (by first | exact rfl | assumption) (by k_asm) (by k_asm) (by k_asm) (by k_asm) (by k_asm) (by k_is) (by k_is) (by decide) (by ktr_room) (by first | exact BindsTo.of_eq rfl | exact binds_K (by k_in) rfl (by k_is) rfl rfl rfl) (by exact locs rfl) (by exact rfl) (by exact rfl) (by exact rfl) ?_; k_whole; intro zqg zqL zqh zqtk zqFG zqF zqN zqB zqX zqT zqe zqA; (try k_lift zqB); (try ((fail_if_success (fail_if_success k_fold)); (with_reducible refine Mine.wp_fold ?_); intro zqq zqe))) | (refine' code_defCL (by exact rfl) (by exact rfl) (by exact rfl) (by k_asm) (by k_asm) (by k_asm) (by k_asm) (by k_asm) (by k_is) (by k_is) (by ktr_room) (by first | exact BindsTo.of_eq rfl | exact binds_K (by k_in) rfl (by k_is) rfl rfl rfl) (by exact rfl) (by decide +kernel) (by exact rfl) (by exact rfl) (by exact rfl) ?_; k_whole; intro zqg zqL zqh zqtk zqcells zqFG zqF zqN zqY zqB zqX zqT zql1 zqe zqA; (try k_lt zql1); k_cells zqY; (try simp only [List.cons_append, List.nil_append] at zqN); (try dsimp only); (try k_lift zqB); (try ((fail_if_success (fail_if_success k_fold)); (with_reducible refine Mine.wp_fold ?_); intro zqq zqe)))))))) | walk1 | (dsimp only; walk1) | ((with_reducible show wpAny _ _ _ _ _ _); dsimp only) | (leave1; walk_say "STEP leave1"; (first | (with_reducible refine (?_ : wpAny _ _ _ _ _ _)) | try dsimp only))))
      all_goals first | exact F7 | exact N7 | k_asm
    case fn =>
      intro D8 zs8 h8 tk8 hz8 F7 N7 off8
      repeat' ((first | ((fail_if_success (fail_if_success k_unfold)); (first | (with_reducible refine (?_ : wpAny _ _ _ _ _ _)) | (k_unfold; (try dsimp only)))) | ((fail_if_success (fail_if_success k_fold)); (first | (goal_has PySem.exec; (fail_if_success (fail_if_success (with_reducible show wpAny _ _ (exec _ _) _ _ _)))) | (goal_has PySem.Expr.BoolOp; (fail_if_success (fail_if_success (with_reducible show wpAny _ _ (eval (PySem.Expr.BoolOp _ _ _) _) _ _ _)))) | (goal_has PySem.Expr.Call; (fail_if_success (fail_if_success (with_reducible show wpAny _ _ (eval (PySem.Expr.Call _ _ _ _) _) _ _ _)))) | (goal_has PySem.Expr.Compare; (fail_if_success (fail_if_success (with_reducible show wpAny _ _ (eval (PySem.Expr.Compare _ _ _ _) _) _ _ _))))); (with_reducible refine Mine.wp_fold ?_); intro zqq zqe) | (goal_has PySem.Shared.mk; (with_reducible refine Mine.st_let ?_); intro zqs; goal_lacks PySem.Shared.mk) | ((ctx_mentions ite List.lookup); (rename Fr _ _ _ _ => zqF9); revert zqF9; (goal_has ite List.lookup); (with_reducible refine Mine.fr_let ?_); intro zqm; goal_lacks ite List.lookup; intro zqF) | ((ctx_mentions List.cons HAppend.hAppend List.append); (rename News _ _ _ _ => zqN9); (fail_if_success (fail_if_success (conv at zqN9 => arg 4; arg 2))); (with_reducible refine Mine.news_let zqN9 ?_); intro zql zqN; clear zqN9) | (k_end; wrow_close) | (goal_has PySem.Expr.ListComp; first | ((fail_if_success (fail_if_success (with_reducible show wpAny _ _ (eval (PySem.Expr.ListComp (PySem.Expr.Call _ _ _ _) _ _ _) _) _ _ _))); lcp_look; k_dflt (refine Mine.cells_comp (F₀ := by k_asm) (hE := by assumption) (hoE := by rfl) (by with_unfolding_all rfl) (by decide) (by rfl) (by decide) (by rfl) (by rfl) (by decide) ?_)) | ((fail_if_success (fail_if_success (with_reducible show wpAny _ _ (eval (PySem.Expr.ListComp (PySem.Expr.Call (PySem.Expr.Attribute _ _ _) _ _ _) _ _ _) _) _ _ _))); k_dflt (refine LCg.ListComp_U (F₀ := by k_asm) (by rfl) (by decide) (by rfl) (by decide) (by rfl) ?_))) | (goal_has PySem.Value.builtin; ((fail_if_success (fail_if_success (with_reducible show wpAny _ _ (call (Value.builtin _) [Value.str (Mine.txt _) _, Value.str _ _]) _ _ _))); k_dflt (refine' Mine.rstrip_txt (by assumption) ?_); intro zqt' zqk')) | (goal_has call; (fail_if_success (fail_if_success (with_reducible show wpAny _ _ (call (Value.ref _) _ _) _ _ _))); first | (k_dflt (first | (refine' call_cls0 (by k_asm) (by k_asm) (by k_asm) (by k_is) (by k_is) ?_; k_whole; intro zqx zqd zqh zqF zqN zql1 zql2; (try ((have zqU := Mine.lts_up zql1 zql2); (dsimp +zetaDelta only [List.map] at zqU))); (try k_lt zql1); (try k_lt2 zql2); (try k_sweep)) | ((first | (refine' call_cls (by k_asm) (by k_asm) (by k_asm) (by k_is) (by k_is) (by k_is) ?_; k_whole; intro zqx zqd zqh zqF zqN zql1 zql2; (try ((have zqU := Mine.lts_up zql1 zql2); (dsimp +zetaDelta only [List.map] at zqU))); (try k_lt zql1); (try k_lt2 zql2); (try k_sweep)) | (refine' Mine.call_fn (by k_asm) (by k_is) ?_; k_whole) | (refine' call_meth (by k_asm) (by k_mem) ?_; k_whole) | refine wpAny_call ?_); (first | (refine' code_defL (by exact rfl) (by exact rfl) (by first | exact rfl | assumption) (by k_asm) (by k_asm) (by k_asm) (by k_asm) (by k_asm) (by k_is) (by k_is) (by decide) (by ktr_room) (by first | exact BindsTo.of_eq rfl | exact binds_K (by k_in) rfl (by k_is) rfl rfl rfl) (by exact locs rfl) (by exact rfl) (by exact rfl) (by exact rfl) ?_; k_whole; intro zqg zqL zqh zqtk zqFG zqF zqN zqB zqX zqT zqe zqA; (try k_lift zqB); (try ((fail_if_success (fail_if_success k_fold)); (with_reducible refine Mine.wp_fold ?_); intro zqq zqe))) | (refine' code_defCL (by exact rfl) (by exact rfl) (by exact rfl) (by k_asm) (by k_asm) (by k_asm) (by k_asm) (by k_asm) (by k_is) (by k_is) (by ktr_room) (by first | exact BindsTo.of_eq rfl | exact binds_K (by k_in) rfl (by k_is) rfl rfl rfl) (by exact rfl) (by decide +kernel) (by exact rfl) (by exact rfl) (by exact rfl) ?_; k_whole; intro zqg zqL zqh zqtk zqcells zqFG zqF zqN zqY zqB zqX zqT zql1 zqe zqA; (try k_lt zql1); k_cells zqY; (try simp only [List.cons_append, List.nil_append] at zqN); (try dsimp only); (try k_lift zqB); (try ((fail_if_success (fail_if_success k_fold)); (with_reducible refine Mine.wp_fold ?_); intro zqq zqe)))))))) | walk1 | (dsimp only; walk1) | ((with_reducible show wpAny _ _ _ _ _ _); dsimp only) | (leave1; walk_say "STEP leave1"; (first | (with_reducible refine (?_ : wpAny _ _ _ _ _ _)) | try dsimp only))))
      rename News _ _ _ _ => N7
      have hz6 : zs8.length = l9.length := by
        have := strs_length hz8
        simpa using this
      refine join_listW (ys := l9.map fun k => txt [k]) ⟨_, (N7 _ (.head _)).1, rfl, _, rfl⟩ hz8 (by decide +kernel) ?_ fun t7 k7 => ?_
      · rw [List.map_map, List.length_map, sum_ones]
        omega
      have ej : Txt.join (Str.ofString "") (l9.map fun k => txt [k]) = txt l9 := (StrLaws.glued_eq_join _ _).trans (join_txt l9)
      rw [ej]
      repeat' ((first | ((fail_if_success (fail_if_success k_unfold)); (first | (with_reducible refine (?_ : wpAny _ _ _ _ _ _)) | (k_unfold; (try dsimp only)))) | ((fail_if_success (fail_if_success k_fold)); (first | (goal_has PySem.exec; (fail_if_success (fail_if_success (with_reducible show wpAny _ _ (exec _ _) _ _ _)))) | (goal_has PySem.Expr.BoolOp; (fail_if_success (fail_if_success (with_reducible show wpAny _ _ (eval (PySem.Expr.BoolOp _ _ _) _) _ _ _)))) | (goal_has PySem.Expr.Call; (fail_if_success (fail_if_success (with_reducible show wpAny _ _ (eval (PySem.Expr.Call _ _ _ _) _) _ _ _)))) | (goal_has PySem.Expr.Compare; (fail_if_success (fail_if_success (with_reducible show wpAny _ _ (eval (PySem.Expr.Compare _ _ _ _) _) _ _ _))))); (with_reducible refine Mine.wp_fold ?_); intro zqq zqe) | (goal_has PySem.Shared.mk; (with_reducible refine Mine.st_let ?_); intro zqs; goal_lacks PySem.Shared.mk) | ((ctx_mentions ite List.lookup); (rename Fr _ _ _ _ => zqF9); revert zqF9; (goal_has ite List.lookup); (with_reducible refine Mine.fr_let ?_); intro zqm; goal_lacks ite List.lookup; intro zqF) | ((ctx_mentions List.cons HAppend.hAppend List.append); (rename News _ _ _ _ => zqN9); (fail_if_success (fail_if_success (conv at zqN9 => arg 4; arg 2))); (with_reducible refine Mine.news_let zqN9 ?_); intro zql zqN; clear zqN9) | (k_end; wrow_close) | (goal_has PySem.Expr.ListComp; first | ((fail_if_success (fail_if_success (with_reducible show wpAny _ _ (eval (PySem.Expr.ListComp (PySem.Expr.Call _ _ _ _) _ _ _) _) _ _ _))); lcp_look; k_dflt (refine Mine.cells_comp (F₀ := by k_asm) (hE := by assumption) (hoE := by rfl) (by with_unfolding_all rfl) (by decide) (by rfl) (by decide) (by rfl) (by rfl) (by decide) ?_)) | ((fail_if_success (fail_if_success (with_reducible show wpAny _ _ (eval (PySem.Expr.ListComp (PySem.Expr.Call (PySem.Expr.Attribute _ _ _) _ _ _) _ _ _) _) _ _ _))); k_dflt (refine LCg.ListComp_U (F₀ := by k_asm) (by rfl) (by decide) (by rfl) (by decide) (by rfl) ?_))) | (goal_has PySem.Value.builtin; ((fail_if_success (fail_if_success (with_reducible show wpAny _ _ (call (Value.builtin _) [Value.str (Mine.txt _) _, Value.str _ _]) _ _ _))); k_dflt (refine' Mine.rstrip_txt (by assumption) ?_); intro zqt' zqk')) | (goal_has call; (fail_if_success (fail_if_success (with_reducible show wpAny _ _ (call (Value.ref _) _ _) _ _ _))); first | (k_dflt (first | (refine' call_cls0 (by k_asm) (by k_asm) (by k_asm) (by k_is) (by k_is) ?_; k_whole; intro zqx zqd zqh zqF zqN zql1 zql2; (try ((have zqU := Mine.lts_up zql1 zql2); (dsimp +zetaDelta only [List.map] at zqU))); (try k_lt zql1); (try k_lt2 zql2); (try k_sweep)) | ((first | (refine' call_cls (by k_asm) (by k_asm) (by k_asm) (by k_is) (by k_is) (by k_is) ?_; k_whole; intro zqx zqd zqh zqF zqN zql1 zql2; (try ((have zqU := Mine.lts_up zql1 zql2); (dsimp +zetaDelta only [List.map] at zqU))); (try k_lt zql1); (try k_lt2 zql2); (try k_sweep)) | (refine' Mine.call_fn (by k_asm) (by k_is) ?_; k_whole) | (refine' call_meth (by k_asm) (by k_mem) ?_; k_whole) | refine wpAny_call ?_); (first | (refine' code_defL (by exact rfl) (by exact rfl) (by first | exact rfl | assumption) (by k_asm) (by k_asm) (by k_asm) (by k_asm) (by k_asm) (by k_is) (by k_is) (by decide) (by ktr_room) (by first | exact BindsTo.of_eq rfl | exact binds_K (by k_in) rfl (by k_is) rfl rfl rfl) (by exact locs rfl) (by exact rfl) (by exact rfl) (by exact rfl) ?_; k_whole; intro zqg zqL zqh zqtk zqFG zqF zqN zqB zqX zqT zqe zqA; (try k_lift zqB); (try ((fail_if_success (fail_if_success k_fold)); (with_reducible refine Mine.wp_fold ?_); intro zqq zqe))) | (refine' code_defCL (by exact rfl) (by exact rfl) (by exact rfl) (by k_asm) (by k_asm) (by k_asm) (by k_asm) (by k_asm) (by k_is) (by k_is) (by ktr_room) (by first | exact BindsTo.of_eq rfl | exact binds_K (by k_in) rfl (by k_is) rfl rfl rfl) (by exact rfl) (by decide +kernel) (by exact rfl) (by exact rfl) (by exact rfl) ?_; k_whole; intro zqg zqL zqh zqtk zqcells zqFG zqF zqN zqY zqB zqX zqT zql1 zqe zqA; (try k_lt zql1); k_cells zqY; (try simp only [List.cons_append, List.nil_append] at zqN); (try dsimp only); (try k_lift zqB); (try ((fail_if_success (fail_if_success k_fold)); (with_reducible refine Mine.wp_fold ?_); intro zqq zqe)))))))) | walk1 | (dsimp only; walk1) | ((with_reducible show wpAny _ _ _ _ _ _); dsimp only) | (leave1; walk_say "STEP leave1"; (first | (with_reducible refine (?_ : wpAny _ _ _ _ _ _)) | try dsimp only))))
      rename Fr _ _ _ _ => F6
      rename News _ _ _ _ => N6
      refine ⟨_, _, (), rfl, F6, cb_drop N6 (fun q hq => ?_), off, .inr ⟨_, mrs, rfl, _, rfl⟩, ?_⟩
      · exact .tail _ hq
      · rw [get_split hl9, List.map_append]
        exact strs_snoc hj
  case fin =>
    intro zs c hyl9 hj D' h' tk' F' N' off1'
    try dsimp only at *
    have e9 : rows.take ys.toArray.size = rows := List.take_of_length_le (by rw [List.size_toArray]; omega)
    rw [e9] at hj
    repeat' ((first | ((fail_if_success (fail_if_success k_unfold)); (first | (with_reducible refine (?_ : wpAny _ _ _ _ _ _)) | (k_unfold; (try dsimp only)))) | ((fail_if_success (fail_if_success k_fold)); (first | (goal_has PySem.exec; (fail_if_success (fail_if_success (with_reducible show wpAny _ _ (exec _ _) _ _ _)))) | (goal_has PySem.Expr.BoolOp; (fail_if_success (fail_if_success (with_reducible show wpAny _ _ (eval (PySem.Expr.BoolOp _ _ _) _) _ _ _)))) | (goal_has PySem.Expr.Call; (fail_if_success (fail_if_success (with_reducible show wpAny _ _ (eval (PySem.Expr.Call _ _ _ _) _) _ _ _)))) | (goal_has PySem.Expr.Compare; (fail_if_success (fail_if_success (with_reducible show wpAny _ _ (eval (PySem.Expr.Compare _ _ _ _) _) _ _ _))))); (with_reducible refine Mine.wp_fold ?_); intro zqq zqe) | (goal_has PySem.Shared.mk; (with_reducible refine Mine.st_let ?_); intro zqs; goal_lacks PySem.Shared.mk) | ((ctx_mentions ite List.lookup); (rename Fr _ _ _ _ => zqF9); revert zqF9; (goal_has ite List.lookup); (with_reducible refine Mine.fr_let ?_); intro zqm; goal_lacks ite List.lookup; intro zqF) | ((ctx_mentions List.cons HAppend.hAppend List.append); (rename News _ _ _ _ => zqN9); (fail_if_success (fail_if_success (conv at zqN9 => arg 4; arg 2))); (with_reducible refine Mine.news_let zqN9 ?_); intro zql zqN; clear zqN9) | (k_end; wrow_close) | (goal_has PySem.Expr.ListComp; first | ((fail_if_success (fail_if_success (with_reducible show wpAny _ _ (eval (PySem.Expr.ListComp (PySem.Expr.Call _ _ _ _) _ _ _) _) _ _ _))); lcp_look; k_dflt (refine Mine.cells_comp (F₀ := by k_asm) (hE := by assumption) (hoE := by rfl) (by with_unfolding_all rfl) (by decide) (by rfl) (by decide) (by rfl) (by rfl) (by decide) ?_)) | ((fail_if_success (fail_if_success (with_reducible show wpAny _ _ (eval (PySem.Expr.ListComp (PySem.Expr.Call (PySem.Expr.Attribute _ _ _) _ _ _) _ _ _) _) _ _ _))); k_dflt (refine LCg.ListComp_U (F₀ := by k_asm) (by rfl) (by decide) (by rfl) (by decide) (by rfl) ?_))) | (goal_has PySem.Value.builtin; ((fail_if_success (fail_if_success (with_reducible show wpAny _ _ (call (Value.builtin _) [Value.str (Mine.txt _) _, Value.str _ _]) _ _ _))); k_dflt (refine' Mine.rstrip_txt (by assumption) ?_); intro zqt' zqk')) | (goal_has call; (fail_if_success (fail_if_success (with_reducible show wpAny _ _ (call (Value.ref _) _ _) _ _ _))); first | (k_dflt (first | (refine' call_cls0 (by k_asm) (by k_asm) (by k_asm) (by k_is) (by k_is) ?_; k_whole; intro zqx zqd zqh zqF zqN zql1 zql2; (try ((have zqU := Mine.lts_up zql1 zql2); (dsimp +zetaDelta only [List.map] at zqU))); (try k_lt zql1); (try k_lt2 zql2); (try k_sweep)) | ((first | (refine' call_cls (by k_asm) (by k_asm) (by k_asm) (by k_is) (by k_is) (by k_is) ?_; k_whole; intro zqx zqd zqh zqF zqN zql1 zql2; (try ((have zqU := Mine.lts_up zql1 zql2); (dsimp +zetaDelta only [List.map] at zqU))); (try k_lt zql1); (try k_lt2 zql2); (try k_sweep)) | (refine' Mine.call_fn (by k_asm) (by k_is) ?_; k_whole) | (refine' call_meth (by k_asm) (by k_mem) ?_; k_whole) | refine wpAny_call ?_); (first | (refine' code_defL (by exact rfl) (by exact rfl) (by first | exact rfl | assumption) (by k_asm) (by k_asm) (by k_asm) (by k_asm) (by k_asm) (by k_is) (by k_is) (by decide) (by ktr_room) (by first | exact BindsTo.of_eq rfl | exact binds_K (by k_in) rfl (by k_is) rfl rfl rfl) (by exact locs rfl) (by exact rfl) (by exact rfl) (by exact rfl) ?_; k_whole; intro zqg zqL zqh zqtk zqFG zqF zqN zqB zqX zqT zqe zqA; (try k_lift zqB); (try ((fail_if_success (fail_if_success k_fold)); (with_reducible refine Mine.wp_fold ?_); intro zqq zqe))) | (refine' code_defCL (by exact rfl) (by exact rfl) (by exact rfl) (by k_asm) (by k_asm) (by k_asm) (by k_asm) (by k_asm) (by k_is) (by k_is) (by ktr_room) (by first | exact BindsTo.of_eq rfl | exact binds_K (by k_in) rfl (by k_is) rfl rfl rfl) (by exact rfl) (by decide +kernel) (by exact rfl) (by exact rfl) (by exact rfl) ?_; k_whole; intro zqg zqL zqh zqtk zqcells zqFG zqF zqN zqY zqB zqX zqT zql1 zqe zqA; (try k_lt zql1); k_cells zqY; (try simp only [List.cons_append, List.nil_append] at zqN); (try dsimp only); (try k_lift zqB); (try ((fail_if_success (fail_if_success k_fold)); (with_reducible refine Mine.wp_fold ?_); intro zqq zqe)))))))) | walk1 | (dsimp only; walk1) | ((with_reducible show wpAny _ _ _ _ _ _); dsimp only) | (leave1; walk_say "STEP leave1"; (first | (with_reducible refine (?_ : wpAny _ _ _ _ _ _)) | try dsimp only))))
    exact ret _ _ _ _ hj (by assumption) (by assumption)
  )) only [↓Mine.wrap_i]
end
theorem eqv_strs : ∀ L : List Str, PyData.eqvAll (L.map PyData.str) (L.map PyData.str) = true
  | [] => rfl
  | x :: r => by
    show ((x == x) && PyData.eqvAll (r.map PyData.str) (r.map PyData.str)) = true
    rw [eqv_strs r, beq_self_eq_true]
    rfl
theorem lay_strs : ∀ {L : List Str}, (∀ x ∈ L, PyData.strOk x = true) → PyData.canLayAll0 (L.map PyData.str) = true
  | [], _ => rfl
  | x :: r, h => by
    rw [List.map_cons]
    simp only [PyData.canLayAll0, PyData.canLay0]
    rw [h x (.head _), lay_strs (L := r) fun y hy => h y (.tail _ hy)]
    rfl
theorem depth_strs : ∀ L : List Str, PyData.depthAll (L.map PyData.str) ≤ 1
  | [] => by simp [PyData.depthAll]
  | x :: r => by
    have := depth_strs r
    rw [List.map_cons]
    simp only [PyData.depthAll, PyData.depth]
    omega
theorem ok_txt {l : List Nat} (h : ∀ k ∈ l, k < 128) : PyData.strOk (txt l) = true := by
  unfold PyData.strOk
  rw [Array.all_eq_true']
  intro k hk
  have := h k (by simpa using hk)
  simp only [decide_eq_true_eq]
  omega
section
variable {prog : Program} {w : World} {A : Around} {E : Value → Shared → Prop} {s : Shared} {h₀ : Heap} {L : Addr} {news : List (Addr × Obj)} {Q : Value → Shared → Prop}
/-- two lists of the same texts -/
theorem eq_strs {a b : Addr} {vs us : List Value} {j k : Nat} {X : List Str} (N : News h₀ L s.heap news) (ha : (a, listOf vs.toArray j) ∈ news) (hb : (b, listOf us.toArray k) ∈ news) (hi : StrsAre vs X) (hj : StrsAre us X) (ho : ∀ x ∈ X, PyData.strOk x = true) (hu : A.units + 64 < cLine)
    (h : Q (.bool true) s) : wpAny (model prog w) A (compareOp .Eq (.ref a) (.ref b)) Q E s := by
  have hs : SeqAt.shaped (PyData.list (X.map PyData.str)) = true := by
    have h1 := lay_strs ho
    have h2 := depth_strs X
    unfold SeqAt.shaped
    simp only [PyData.canLay0, PyData.depth, h1, Bool.true_and]
    exact decide_eq_true (by omega)
  refine eq_same (.list (N _ ha).1 rfl rfl (StrsAre.reads _ hi)) (.list (N _ hb).1 rfl rfl (StrsAre.reads _ hj)) hs hs hu ?_ h
  exact eqv_strs X
end
theorem rows_texts (wd ht : Int) (msg : List Nat) : (rowsL wd ht msg).map (fun l => txt (strp l)) = List.replicate (ht - 1).toNat (txt []) ++ [txt (strp (msg.take wd.toNat))] := by
  unfold rowsL echoL
  rw [List.map_append, List.map_replicate, strp_all]
  simp only [List.map_cons, List.map_nil]
  rw [strp_blanks]
theorem rows_small {wd ht : Int} {msg : List Nat} (h : ∀ k ∈ msg, k < 128) : ∀ l ∈ rowsL wd ht msg, ∀ k ∈ l, k < 128 := by
  intro l hl k hk
  unfold rowsL echoL at hl
  rcases List.mem_append.mp hl with hl | hl
  · rw [(List.mem_replicate.mp hl).2] at hk
    rw [(List.mem_replicate.mp hk).2]
    decide
  · rw [List.mem_singleton.mp hl] at hk
    rcases List.mem_append.mp hk with hk | hk
    · exact h k (List.mem_of_mem_take hk)
    · rw [(List.mem_replicate.mp hk).2]
      decide
theorem rows_len {wd ht : Int} {msg : List Nat} (h : ht ≤ 3) : (rowsL wd ht msg).length ≤ 3 := by
  unfold rowsL
  rw [List.length_append, List.length_replicate]
  simp only [List.length_cons, List.length_nil]
  omega
theorem strs_rep {x : Str} {t : Tok} : ∀ n : Nat, StrsAre (List.replicate n (Value.str x t)) (List.replicate n x)
  | 0 => .nil
  | n + 1 => .cons x t (strs_rep n)
theorem strs_app : ∀ {vs us : List Value} {X Y : List Str}, StrsAre vs X → StrsAre us Y → StrsAre (vs ++ us) (X ++ Y)
  | _, _, _, _, .nil, h => h
  | _, _, _, _, .cons x t r, h => .cons x t (strs_app r h)
def wdOf {c : List (Addr × Obj)} {ys : List Value} {wd ht : Int} {msg : List Nat} (_ : Paired (RowIs c) ys (rowsL wd ht msg)) : Int := wd
def htOf {c : List (Addr × Obj)} {ys : List Value} {wd ht : Int} {msg : List Nat} (_ : Paired (RowIs c) ys (rowsL wd ht msg)) : Int := ht
theorem strp_sub {l : List Nat} {k : Nat} (h : k ∈ strp l) : k ∈ l := by
  rw [strp_take] at h
  exact List.mem_of_mem_take h
theorem strp_end {l : List Nat} (h : (Txt.slice (txt l) (some (-1)) none == Str.ofString " ") = false) : strp l = l := by
  rcases List.eq_nil_or_concat l with rfl | ⟨r, c, rfl⟩
  · rfl
  · rw [List.concat_eq_append] at h ⊢
    rw [txt_last] at h
    rw [strp_snoc, if_neg fun e => ?_]
    subst e
    exact absurd h (by decide +kernel)
theorem strp_cut {l : List Nat} (h : (Txt.slice (txt l) (some (-1)) none == Str.ofString " ") = true) : ∃ r, l = r ++ [32] ∧ Txt.slice (txt l) none (some (-1)) = txt r ∧ strp l = strp r := by
  rcases List.eq_nil_or_concat l with rfl | ⟨r, c, rfl⟩
  · exact absurd h (by decide +kernel)
  · rw [List.concat_eq_append] at h ⊢
    rw [txt_last] at h
    have e2 : txt [c] = txt [32] := eq_of_beq h
    have e : c = 32 := by
      have e3 : (txt [c]).cps.toList = (txt [32]).cps.toList := by rw [e2]
      simpa using e3
    subst e
    exact ⟨r, rfl, txt_but r 32, by rw [strp_snoc, if_pos rfl]⟩
theorem rows_sub {c : List (Addr × Obj)} {p : Addr × Obj} {ys : List Value} {rows : List (List Nat)} (h : Paired (RowIs c) ys rows) : Paired (RowIs (p :: c)) ys rows := paired_imp (fun _ _ h => h.sub fun _ hq => .tail _ hq) h
/-- a drawn letter -/
def OkLet (y : Value) : Prop := ∃ (k : Nat) (u : Tok), y = .str (txt [k]) u ∧ k < 128
theorem strs_of_ok : ∀ {ys : List Value}, (∀ y ∈ ys, OkLet y) → ∃ ks : List Nat, StrsAre ys (ks.map fun k => txt [k]) ∧ ∀ k ∈ ks, k < 128
  | [], _ => ⟨[], .nil, fun _ h => nomatch h⟩
  | y :: r, h => by
    obtain ⟨v, t, rfl, hv⟩ := h y (.head _)
    obtain ⟨ks, hi, hk⟩ := strs_of_ok (ys := r) fun z hz => h z (.tail _ hz)
    exact ⟨v :: ks, .cons _ t hi, fun z hz => by
      rcases List.mem_cons.mp hz with rfl | hz
      · exact hv
      · exact hk z hz⟩
theorem let_item {r : Int} (h0 : 0 ≤ r) (h4 : r < 4) : ∃ k : Nat, Txt.item (Str.ofString "ab c") r = txt [k] ∧ k < 128 := by
  have h : r = 0 ∨ r = 1 ∨ r = 2 ∨ r = 3 := by omega
  rcases h with rfl | rfl | rfl | rfl
  · exact ⟨97, rfl, by decide⟩
  · exact ⟨98, rfl, by decide⟩
  · exact ⟨32, rfl, by decide⟩
  · exact ⟨99, rfl, by decide⟩
section
variable {prog : Program} {w : World} {A : Around} {E : Value → Shared → Prop} {s : Shared} {h₀ : Heap} {L : Addr} {news : List (Addr × Obj)} {Q : Value → Shared → Prop}
theorem join_made {D : Addr} {ys : List Value} {ks : List Nat} {n : Nat} {t : Tok} (N : News h₀ L s.heap news) (hm : (D, listOf ys.toArray n) ∈ news) (hi : StrsAre ys (ks.map fun k => txt [k])) (hl : ks.length ≤ 24)
    (h : ∀ t' k, Q (.str (txt ks) t') { s with toks := k }) : wpAny (model prog w) A (call (.builtin "str.join") [.str (Str.ofString "") t, .ref D]) Q E s := by
  refine join_listW (ys := ks.map fun k => txt [k]) ⟨_, (N _ hm).1, rfl, _, rfl⟩ hi (by decide +kernel) ?_ fun t7 k7 => ?_
  · rw [List.map_map, List.length_map, sum_ones]
    omega
  · have ej : Txt.join (Str.ofString "") (ks.map fun k => txt [k]) = txt ks := (StrLaws.glued_eq_join _ _).trans (join_txt ks)
    rw [ej]
    exact h t7 k7
end
section
variable {prog : Program} {w : World} {p : Program} {loose : List Str} {mean : ExcName → Option Value} {mg mb : Str → Option Value} {dp un : Nat} {gd : Option (List Code)} {cn : Str} {cnm : List (Str × NameKind)} {cg cc : Bool} {cm : List (Str × Const)} {a : Addr} {ccd : Value} {cl : List (Str × Addr)} {outer : List Env} {A₀ : Around} {base h₀ : Heap} {L : Addr} {m : Str → Option Value} {s : Shared} {Q E : Value → Shared → Prop}

theorem echo_core {d c : Addr} {vs : List Value} {ns : List Int} {S k : Int} {tS tk : Tok} {n nc : Nat}
    (B : Below A₀ base outer h₀) (F : Fr h₀ L s.heap m) (X : (Mine.fr.heap_1_1 w.params).In h₀) (N : News h₀ L s.heap [(d, deckO c S tS k tk n), (c, listOf vs.toArray nc)]) (TT : Top p loose mean mg mb h₀)
    (hi : IntsAre vs ns) (hlen : ns.length ≤ 24) (hdc : @Ne Nat d c)
    (hd : dp + 40 < recursionLimit) (hu : un + 800 < cLine)
    (ret : ∀ h' tk', Fr h₀ L h' m → Q (.bool true) { s with heap := h', toks := tk' }) :
    wpAny (model prog w) (ktrTop dp un gd cn ⟨.function, cnm, cg, cc, cm⟩ L a ccd cl outer) (call (.ref (1068 : Nat)) [.ref d]) Q E s := by
  refine Mine.unwrap ?_
  simp (disch := k_dflt (
  have _h : PySem.Challenge.rw_on0075_01 = PySem.Challenge.rw_on0075_01 ∧ Mine.fr.heap_1_1 = Mine.fr.heap_1_1 := by (k_fill; exact ⟨rfl, rfl⟩)
  clear _h
  w_top off
  repeat' ((fail_if_success (with_reducible show LCg.CompSrc _ _ _ _ _ _ _ _ _ _ _ _ _ _)); (fail_if_success (with_reducible show wpAny _ _ (exec (PySem.Stmt.While _ _ _ _) _) _ _ _)); (fail_if_success (with_reducible show wpAny _ _ (compareOp CmpOp.Eq (Value.ref _) (Value.ref _)) _ _ _)); ((first | ((fail_if_success (fail_if_success k_unfold)); (first | (with_reducible refine (?_ : wpAny _ _ _ _ _ _)) | (k_unfold; (try dsimp only)))) | ((fail_if_success (fail_if_success k_fold)); (first | (goal_has PySem.exec; (fail_if_success (fail_if_success (with_reducible show wpAny _ _ (exec _ _) _ _ _)))) | (goal_has PySem.Expr.BoolOp; (fail_if_success (fail_if_success (with_reducible show wpAny _ _ (eval (PySem.Expr.BoolOp _ _ _) _) _ _ _)))) | (goal_has PySem.Expr.Call; (fail_if_success (fail_if_success (with_reducible show wpAny _ _ (eval (PySem.Expr.Call _ _ _ _) _) _ _ _)))) | (goal_has PySem.Expr.Compare; (fail_if_success (fail_if_success (with_reducible show wpAny _ _ (eval (PySem.Expr.Compare _ _ _ _) _) _ _ _))))); (with_reducible refine Mine.wp_fold ?_); intro zqq zqe) | (goal_has PySem.Shared.mk; (with_reducible refine Mine.st_let ?_); intro zqs; goal_lacks PySem.Shared.mk) | ((ctx_mentions ite List.lookup); (rename Fr _ _ _ _ => zqF9); revert zqF9; (goal_has ite List.lookup); (with_reducible refine Mine.fr_let ?_); intro zqm; goal_lacks ite List.lookup; intro zqF) | ((ctx_mentions List.cons HAppend.hAppend List.append); (rename News _ _ _ _ => zqN9); (fail_if_success (fail_if_success (conv at zqN9 => arg 4; arg 2))); (with_reducible refine Mine.news_let zqN9 ?_); intro zql zqN; clear zqN9) | (k_end; wrow_close) | (goal_has PySem.Value.builtin; ((try simp only [List.cons_append, List.nil_append]); (with_reducible show wpAny _ _ (call (Value.builtin _) [Value.str _ _, Value.ref _]) _ _ _); k_dflt (refine' Mine.join_made (by k_asm) (by k_mem) (by assumption) (by omega) ?_); intro zqt' zqk')) | (goal_has binaryOp; ((fail_if_success (fail_if_success (with_reducible show wpAny _ _ (binaryOp Operator.Mult (Value.ref _) (Value.int _ _)) _ _ _))); k_dflt (refine' Mine.rep_val (by k_asm) (by k_asm) (by k_mem) (by first | decide | omega) (by first | decide | omega) ?_); intro zqD' zqh' zqF' zqN' zql1; (try k_lt zql1); (try k_sweep))) | (goal_has call; (fail_if_success (fail_if_success (with_reducible show wpAny _ _ (call (Value.ref _) _ _) _ _ _))); first | ((fail_if_success (fail_if_success (with_reducible show wpAny _ _ (call (Value.ref (137 : Nat)) [Value.ref _]) _ _ _))); k_dflt (refine' Mine.texts_ok (by k_asm) (by k_asm) (by k_asm) (by k_asm) (by k_asm) (by k_mem) (by k_mem) (by k_mem) (by exact Mine.rows_sub (by assumption)) (by assumption) (by assumption) (by ktr_room) (by ktr_units) ?_); intro zqD' zqzs' zqh' zqtk' zqhz' zqF' zqN'; (try k_sweep); (try dsimp only); (try ((fail_if_success (fail_if_success k_fold)); (with_reducible refine Mine.wp_fold ?_); intro zqq zqe))) | ((fail_if_success (fail_if_success (with_reducible show wpAny _ _ (call (Value.ref (842 : Nat)) [Value.int _ _, Value.int _ _]) _ _ _))); k_dflt (refine' Mine.matrix_ok (by k_asm) (by k_asm) (by k_asm) (by k_asm) (by k_asm) (by omega) (by omega) (by omega) (by omega) (by ktr_room) (by ktr_units) ?_); intro zqx' zqmd' zqrs' zqcu' zqT' zqys' zqnr' zqown' zqh' zqtk' zqhsub' zqhyl' zqhy' zqhoff' zqhne' zqF' zqN'; (try k_sweep); (try dsimp only); (try ((fail_if_success (fail_if_success k_fold)); (with_reducible refine Mine.wp_fold ?_); intro zqq zqe))) | ((fail_if_success (fail_if_success (with_reducible show wpAny _ _ (call (Value.ref (810 : Nat)) [Value.ref _, Value.none, Value.none]) _ _ _))); k_dflt (refine' Mine.editor_ok (by k_asm) (by k_asm) (by k_asm) (by k_asm) (by k_asm) (by ktr_room) (by ktr_units) ?_); intro zqx' zqed' zqT' zqlm' zqmm' zqud' zqmk' zqam' zqre' zqh' zqtk' zql1 zql2 zqF' zqN'; (have lu1 := Mine.lts_up zql1 zql2); (try dsimp +zetaDelta only [List.map] at lu1); (try k_lt zql1); (try k_sweep); (try dsimp only); (try ((fail_if_success (fail_if_success k_fold)); (with_reducible refine Mine.wp_fold ?_); intro zqq zqe))) | ((fail_if_success (fail_if_success (with_reducible show wpAny _ _ (call (Value.ref (578 : Nat)) _) _ _ _))); k_dflt (refine' Mine.bt_ok (by k_asm) (by k_asm) (by k_asm) (by k_asm) (by k_asm) (by ktr_room) (by ktr_units) ?_); intro zqx' zqh' zqtk' zqF' zqN'; (try k_sweep); (try dsimp only); (try ((fail_if_success (fail_if_success k_fold)); (with_reducible refine Mine.wp_fold ?_); intro zqq zqe))) | ((fail_if_success (fail_if_success (with_reducible show wpAny _ _ (call (Value.ref (1027 : Nat)) [Value.ref _, Value.int _ _]) _ _ _))); k_dflt (refine' Mine.draw_ok (by k_asm) (by k_asm) (by k_asm) (by k_asm) (by k_asm) (by first | exact rfl | assumption) (by (intro zqo'; k_upd)) (by (intro zqo₁ zqo'; k_upd)) (by l_ints) (by first | assumption | omega) (by first | decide | omega) (by first | decide | omega) (by ktr_room) (by ktr_units) ?_); intro zqr' zqt' zqh' zqtk' zqvs' zqns' zqk' zqtk2' zqn' zqnc' zqhr0' zqhr1' zqhi' zqhl' zqF' zqN'; (try dsimp only at zqN'); (try k_sweep); (try dsimp only); (try ((fail_if_success (fail_if_success k_fold)); (with_reducible refine Mine.wp_fold ?_); intro zqq zqe))) | (k_dflt (first | (refine' call_cls0 (by k_asm) (by k_asm) (by k_asm) (by k_is) (by k_is) ?_; k_whole; intro zqx zqd zqh zqF zqN zql1 zql2; (try ((have zqU := Mine.lts_up zql1 zql2); (dsimp +zetaDelta only [List.map] at zqU))); (try k_lt zql1); (try k_lt2 zql2); (try k_sweep)) | ((first | (refine' call_cls (by k_asm) (by k_asm) (by k_asm) (by k_is) (by k_is) (by k_is) ?_; k_whole; intro zqx zqd zqh zqF zqN zql1 zql2; (try ((have zqU := Mine.lts_up zql1 zql2); (dsimp +zetaDelta only [List.map] at zqU))); (try k_lt zql1); (try k_lt2 zql2); (try k_sweep)) | (refine' Mine.call_fn (by k_asm) (by k_is) ?_; k_whole) | (refine' call_meth (by k_asm) (by k_mem) ?_; k_whole) | refine wpAny_call ?_); (first | (refine' code_defL (by exact rfl) (by exact rfl) (by first | exact rfl | assumption) (by k_asm) (by k_asm) (by k_asm) (by k_asm) (by k_asm) (by k_is) (by k_is) (by decide) (by ktr_room) (by first | exact BindsTo.of_eq rfl | exact binds_K (by k_in) rfl (by k_is) rfl rfl rfl) (by exact locs rfl) (by exact rfl) (by exact rfl) (by exact rfl) ?_; k_whole; intro zqg zqL zqh zqtk zqFG zqF zqN zqB zqX zqT zqe zqA; (try k_lift zqB); (try ((fail_if_success (fail_if_success k_fold)); (with_reducible refine Mine.wp_fold ?_); intro zqq zqe))) | (refine' code_defCL (by exact rfl) (by exact rfl) (by exact rfl) (by k_asm) (by k_asm) (by k_asm) (by k_asm) (by k_asm) (by k_is) (by k_is) (by ktr_room) (by first | exact BindsTo.of_eq rfl | exact binds_K (by k_in) rfl (by k_is) rfl rfl rfl) (by exact rfl) (by decide +kernel) (by exact rfl) (by exact rfl) (by exact rfl) ?_; k_whole; intro zqg zqL zqh zqtk zqcells zqFG zqF zqN zqY zqB zqX zqT zql1 zqe zqA; (try k_lt zql1); k_cells zqY; (try simp only [List.cons_append, List.nil_append] at zqN); (try dsimp only); (try k_lift zqB); (try ((fail_if_success (fail_if_success k_fold)); (with_reducible refine Mine.wp_fold ?_); intro zqq zqe)))))))) | walk1 | (dsimp only; walk1) | ((with_reducible show wpAny _ _ _ _ _ _); dsimp only) | (leave1; walk_say "STEP leave1"; (first | (with_reducible refine (?_ : wpAny _ _ _ _ _ _)) | try dsimp only)))))
  all_goals first | exact (Value.none : Value) | exact (Str.ofString "" : Str) | exact ((0 : Nat) : Addr) | skip
  rename Fr _ _ _ _ => F9
  rename News _ _ _ _ => N9
  have N8 : News _ _ _ [_, _, _, _, _] := cb_drop N9 (List.forall_mem_cons.mpr ⟨.tail _ (.head _), List.forall_mem_cons.mpr ⟨.tail _ (.tail _ (.head _)), List.forall_mem_cons.mpr ⟨.tail _ (.tail _ (.tail _ (.head _))), List.forall_mem_cons.mpr ⟨.tail _ (.tail _ (.tail _ (.tail _ (.head _)))), List.forall_mem_cons.mpr ⟨.tail _ (.tail _ (.tail _ (.tail _ (.tail _ (.head _))))), List.forall_mem_nil _⟩⟩⟩⟩⟩)
  clear N9
  k_dflt (refine' LCg.CompSrc.range ?r0 ?k1 ?k2 ?r1 ?r2 ?r3 ?r4 ?_; (case r0 => exact rfl); (case k1 => exact F9); (case k2 => exact N8); (case r1 => assumption); (case r2 => exact small_one (by omega) (by omega) (by omega) (by omega)); (case r3 => exact rangeSize_nat _ _); (case r4 => ((rw [PySem.sizeLine_eq]); omega)))
  intro g'
  k_dflt refine' Mine.comp_deck (d := d) (c := c) Mine.OkLet ?u1 ?u2 ?ki ?kl ?turn ?fin
  (case u1 => (intro o'; k_upd))
  (case u2 => (intro o₁ o'; k_upd))
  (case ki => assumption)
  (case kl => assumption)
  case turn =>
    intro v' I' oI' C' oC' D' m' ys' h' tk' E' vs' ns' k' tk2' n' nc' hi' hl' hC' hx' F' N' off' ne'
    (try (dsimp only at *)); (try (simp only [LCg.Off3, and_true] at off')); (try ((fail_if_success (fail_if_success k_fold)); (with_reducible refine Mine.wp_fold ?_); intro zqq zqe))
    repeat' ((first | ((fail_if_success (fail_if_success k_unfold)); (first | (with_reducible refine (?_ : wpAny _ _ _ _ _ _)) | (k_unfold; (try dsimp only)))) | ((fail_if_success (fail_if_success k_fold)); (first | (goal_has PySem.exec; (fail_if_success (fail_if_success (with_reducible show wpAny _ _ (exec _ _) _ _ _)))) | (goal_has PySem.Expr.BoolOp; (fail_if_success (fail_if_success (with_reducible show wpAny _ _ (eval (PySem.Expr.BoolOp _ _ _) _) _ _ _)))) | (goal_has PySem.Expr.Call; (fail_if_success (fail_if_success (with_reducible show wpAny _ _ (eval (PySem.Expr.Call _ _ _ _) _) _ _ _)))) | (goal_has PySem.Expr.Compare; (fail_if_success (fail_if_success (with_reducible show wpAny _ _ (eval (PySem.Expr.Compare _ _ _ _) _) _ _ _))))); (with_reducible refine Mine.wp_fold ?_); intro zqq zqe) | (goal_has PySem.Shared.mk; (with_reducible refine Mine.st_let ?_); intro zqs; goal_lacks PySem.Shared.mk) | ((ctx_mentions ite List.lookup); (rename Fr _ _ _ _ => zqF9); revert zqF9; (goal_has ite List.lookup); (with_reducible refine Mine.fr_let ?_); intro zqm; goal_lacks ite List.lookup; intro zqF) | ((ctx_mentions List.cons HAppend.hAppend List.append); (rename News _ _ _ _ => zqN9); (fail_if_success (fail_if_success (conv at zqN9 => arg 4; arg 2))); (with_reducible refine Mine.news_let zqN9 ?_); intro zql zqN; clear zqN9) | (k_end; wrow_close) | (goal_has PySem.Value.builtin; ((try simp only [List.cons_append, List.nil_append]); (with_reducible show wpAny _ _ (call (Value.builtin _) [Value.str _ _, Value.ref _]) _ _ _); k_dflt (refine' Mine.join_made (by k_asm) (by k_mem) (by assumption) (by omega) ?_); intro zqt' zqk')) | (goal_has binaryOp; ((fail_if_success (fail_if_success (with_reducible show wpAny _ _ (binaryOp Operator.Mult (Value.ref _) (Value.int _ _)) _ _ _))); k_dflt (refine' Mine.rep_val (by k_asm) (by k_asm) (by k_mem) (by first | decide | omega) (by first | decide | omega) ?_); intro zqD' zqh' zqF' zqN' zql1; (try k_lt zql1); (try k_sweep))) | (goal_has call; (fail_if_success (fail_if_success (with_reducible show wpAny _ _ (call (Value.ref _) _ _) _ _ _))); first | ((fail_if_success (fail_if_success (with_reducible show wpAny _ _ (call (Value.ref (137 : Nat)) [Value.ref _]) _ _ _))); k_dflt (refine' Mine.texts_ok (by k_asm) (by k_asm) (by k_asm) (by k_asm) (by k_asm) (by k_mem) (by k_mem) (by k_mem) (by exact Mine.rows_sub (by assumption)) (by assumption) (by assumption) (by ktr_room) (by ktr_units) ?_); intro zqD' zqzs' zqh' zqtk' zqhz' zqF' zqN'; (try k_sweep); (try dsimp only); (try ((fail_if_success (fail_if_success k_fold)); (with_reducible refine Mine.wp_fold ?_); intro zqq zqe))) | ((fail_if_success (fail_if_success (with_reducible show wpAny _ _ (call (Value.ref (842 : Nat)) [Value.int _ _, Value.int _ _]) _ _ _))); k_dflt (refine' Mine.matrix_ok (by k_asm) (by k_asm) (by k_asm) (by k_asm) (by k_asm) (by omega) (by omega) (by omega) (by omega) (by ktr_room) (by ktr_units) ?_); intro zqx' zqmd' zqrs' zqcu' zqT' zqys' zqnr' zqown' zqh' zqtk' zqhsub' zqhyl' zqhy' zqhoff' zqhne' zqF' zqN'; (try k_sweep); (try dsimp only); (try ((fail_if_success (fail_if_success k_fold)); (with_reducible refine Mine.wp_fold ?_); intro zqq zqe))) | ((fail_if_success (fail_if_success (with_reducible show wpAny _ _ (call (Value.ref (810 : Nat)) [Value.ref _, Value.none, Value.none]) _ _ _))); k_dflt (refine' Mine.editor_ok (by k_asm) (by k_asm) (by k_asm) (by k_asm) (by k_asm) (by ktr_room) (by ktr_units) ?_); intro zqx' zqed' zqT' zqlm' zqmm' zqud' zqmk' zqam' zqre' zqh' zqtk' zql1 zql2 zqF' zqN'; (have lu1 := Mine.lts_up zql1 zql2); (try dsimp +zetaDelta only [List.map] at lu1); (try k_lt zql1); (try k_sweep); (try dsimp only); (try ((fail_if_success (fail_if_success k_fold)); (with_reducible refine Mine.wp_fold ?_); intro zqq zqe))) | ((fail_if_success (fail_if_success (with_reducible show wpAny _ _ (call (Value.ref (578 : Nat)) _) _ _ _))); k_dflt (refine' Mine.bt_ok (by k_asm) (by k_asm) (by k_asm) (by k_asm) (by k_asm) (by ktr_room) (by ktr_units) ?_); intro zqx' zqh' zqtk' zqF' zqN'; (try k_sweep); (try dsimp only); (try ((fail_if_success (fail_if_success k_fold)); (with_reducible refine Mine.wp_fold ?_); intro zqq zqe))) | ((fail_if_success (fail_if_success (with_reducible show wpAny _ _ (call (Value.ref (1027 : Nat)) [Value.ref _, Value.int _ _]) _ _ _))); k_dflt (refine' Mine.draw_ok (by k_asm) (by k_asm) (by k_asm) (by k_asm) (by k_asm) (by first | exact rfl | assumption) (by (intro zqo'; k_upd)) (by (intro zqo₁ zqo'; k_upd)) (by l_ints) (by first | assumption | omega) (by first | decide | omega) (by first | decide | omega) (by ktr_room) (by ktr_units) ?_); intro zqr' zqt' zqh' zqtk' zqvs' zqns' zqk' zqtk2' zqn' zqnc' zqhr0' zqhr1' zqhi' zqhl' zqF' zqN'; (try dsimp only at zqN'); (try k_sweep); (try dsimp only); (try ((fail_if_success (fail_if_success k_fold)); (with_reducible refine Mine.wp_fold ?_); intro zqq zqe))) | (k_dflt (first | (refine' call_cls0 (by k_asm) (by k_asm) (by k_asm) (by k_is) (by k_is) ?_; k_whole; intro zqx zqd zqh zqF zqN zql1 zql2; (try ((have zqU := Mine.lts_up zql1 zql2); (dsimp +zetaDelta only [List.map] at zqU))); (try k_lt zql1); (try k_lt2 zql2); (try k_sweep)) | ((first | (refine' call_cls (by k_asm) (by k_asm) (by k_asm) (by k_is) (by k_is) (by k_is) ?_; k_whole; intro zqx zqd zqh zqF zqN zql1 zql2; (try ((have zqU := Mine.lts_up zql1 zql2); (dsimp +zetaDelta only [List.map] at zqU))); (try k_lt zql1); (try k_lt2 zql2); (try k_sweep)) | (refine' Mine.call_fn (by k_asm) (by k_is) ?_; k_whole) | (refine' call_meth (by k_asm) (by k_mem) ?_; k_whole) | refine wpAny_call ?_); (first | (refine' code_defL (by exact rfl) (by exact rfl) (by first | exact rfl | assumption) (by k_asm) (by k_asm) (by k_asm) (by k_asm) (by k_asm) (by k_is) (by k_is) (by decide) (by ktr_room) (by first | exact BindsTo.of_eq rfl | exact binds_K (by k_in) rfl (by k_is) rfl rfl rfl) (by exact locs rfl) (by exact rfl) (by exact rfl) (by exact rfl) ?_; k_whole; intro zqg zqL zqh zqtk zqFG zqF zqN zqB zqX zqT zqe zqA; (try k_lift zqB); (try ((fail_if_success (fail_if_success k_fold)); (with_reducible refine Mine.wp_fold ?_); intro zqq zqe))) | (refine' code_defCL (by exact rfl) (by exact rfl) (by exact rfl) (by k_asm) (by k_asm) (by k_asm) (by k_asm) (by k_asm) (by k_is) (by k_is) (by ktr_room) (by first | exact BindsTo.of_eq rfl | exact binds_K (by k_in) rfl (by k_is) rfl rfl rfl) (by exact rfl) (by decide +kernel) (by exact rfl) (by exact rfl) (by exact rfl) ?_; k_whole; intro zqg zqL zqh zqtk zqcells zqFG zqF zqN zqY zqB zqX zqT zql1 zqe zqA; (try k_lt zql1); k_cells zqY; (try simp only [List.cons_append, List.nil_append] at zqN); (try dsimp only); (try k_lift zqB); (try ((fail_if_success (fail_if_success k_fold)); (with_reducible refine Mine.wp_fold ?_); intro zqq zqe)))))))) | walk1 | (dsimp only; walk1) | ((with_reducible show wpAny _ _ _ _ _ _); dsimp only) | (leave1; walk_say "STEP leave1"; (first | (with_reducible refine (?_ : wpAny _ _ _ _ _ _)) | try dsimp only))))
    rename Fr _ _ _ _ => F7
    rename News _ _ _ _ => N7
    rename _ < (4 : Int) => h4
    rename (0 : Int) ≤ _ => h0
    obtain ⟨k9, e9, hk9⟩ := let_item h0 h4
    rw [e9]
    exact ⟨_, _, _, _, _, _, _, _, rfl, by assumption, by assumption, ⟨k9, _, rfl, hk9⟩, F7, N7⟩
  case fin =>
    intro ys' vs' ns' k' tk2' n' nc' hyl' hok' hi' hl'
    obtain ⟨ks, hik, hok⟩ := strs_of_ok hok'
    have hkl := strs_length hik
    rw [List.length_map] at hkl
    intro D' h' tk' F' N' off1'
    (try (dsimp only at *)); (try (simp only [LCg.Off1, and_true] at off1')); (try ((fail_if_success (fail_if_success k_fold)); (with_reducible refine Mine.wp_fold ?_); intro zqq zqe))
    repeat' ((fail_if_success (with_reducible show wpAny _ _ (call (Value.ref (132 : Nat)) _) _ _ _)); ((first | ((fail_if_success (fail_if_success k_unfold)); (first | (with_reducible refine (?_ : wpAny _ _ _ _ _ _)) | (k_unfold; (try dsimp only)))) | ((fail_if_success (fail_if_success k_fold)); (first | (goal_has PySem.exec; (fail_if_success (fail_if_success (with_reducible show wpAny _ _ (exec _ _) _ _ _)))) | (goal_has PySem.Expr.BoolOp; (fail_if_success (fail_if_success (with_reducible show wpAny _ _ (eval (PySem.Expr.BoolOp _ _ _) _) _ _ _)))) | (goal_has PySem.Expr.Call; (fail_if_success (fail_if_success (with_reducible show wpAny _ _ (eval (PySem.Expr.Call _ _ _ _) _) _ _ _)))) | (goal_has PySem.Expr.Compare; (fail_if_success (fail_if_success (with_reducible show wpAny _ _ (eval (PySem.Expr.Compare _ _ _ _) _) _ _ _))))); (with_reducible refine Mine.wp_fold ?_); intro zqq zqe) | (goal_has PySem.Shared.mk; (with_reducible refine Mine.st_let ?_); intro zqs; goal_lacks PySem.Shared.mk) | ((ctx_mentions ite List.lookup); (rename Fr _ _ _ _ => zqF9); revert zqF9; (goal_has ite List.lookup); (with_reducible refine Mine.fr_let ?_); intro zqm; goal_lacks ite List.lookup; intro zqF) | ((ctx_mentions List.cons HAppend.hAppend List.append); (rename News _ _ _ _ => zqN9); (fail_if_success (fail_if_success (conv at zqN9 => arg 4; arg 2))); (with_reducible refine Mine.news_let zqN9 ?_); intro zql zqN; clear zqN9) | (k_end; wrow_close) | (goal_has PySem.Value.builtin; ((try simp only [List.cons_append, List.nil_append]); (with_reducible show wpAny _ _ (call (Value.builtin _) [Value.str _ _, Value.ref _]) _ _ _); k_dflt (refine' Mine.join_made (by k_asm) (by k_mem) (by assumption) (by omega) ?_); intro zqt' zqk')) | (goal_has binaryOp; ((fail_if_success (fail_if_success (with_reducible show wpAny _ _ (binaryOp Operator.Mult (Value.ref _) (Value.int _ _)) _ _ _))); k_dflt (refine' Mine.rep_val (by k_asm) (by k_asm) (by k_mem) (by first | decide | omega) (by first | decide | omega) ?_); intro zqD' zqh' zqF' zqN' zql1; (try k_lt zql1); (try k_sweep))) | (goal_has call; (fail_if_success (fail_if_success (with_reducible show wpAny _ _ (call (Value.ref _) _ _) _ _ _))); first | ((fail_if_success (fail_if_success (with_reducible show wpAny _ _ (call (Value.ref (137 : Nat)) [Value.ref _]) _ _ _))); k_dflt (refine' Mine.texts_ok (by k_asm) (by k_asm) (by k_asm) (by k_asm) (by k_asm) (by k_mem) (by k_mem) (by k_mem) (by exact Mine.rows_sub (by assumption)) (by assumption) (by assumption) (by ktr_room) (by ktr_units) ?_); intro zqD' zqzs' zqh' zqtk' zqhz' zqF' zqN'; (try k_sweep); (try dsimp only); (try ((fail_if_success (fail_if_success k_fold)); (with_reducible refine Mine.wp_fold ?_); intro zqq zqe))) | ((fail_if_success (fail_if_success (with_reducible show wpAny _ _ (call (Value.ref (842 : Nat)) [Value.int _ _, Value.int _ _]) _ _ _))); k_dflt (refine' Mine.matrix_ok (by k_asm) (by k_asm) (by k_asm) (by k_asm) (by k_asm) (by omega) (by omega) (by omega) (by omega) (by ktr_room) (by ktr_units) ?_); intro zqx' zqmd' zqrs' zqcu' zqT' zqys' zqnr' zqown' zqh' zqtk' zqhsub' zqhyl' zqhy' zqhoff' zqhne' zqF' zqN'; (try k_sweep); (try dsimp only); (try ((fail_if_success (fail_if_success k_fold)); (with_reducible refine Mine.wp_fold ?_); intro zqq zqe))) | ((fail_if_success (fail_if_success (with_reducible show wpAny _ _ (call (Value.ref (810 : Nat)) [Value.ref _, Value.none, Value.none]) _ _ _))); k_dflt (refine' Mine.editor_ok (by k_asm) (by k_asm) (by k_asm) (by k_asm) (by k_asm) (by ktr_room) (by ktr_units) ?_); intro zqx' zqed' zqT' zqlm' zqmm' zqud' zqmk' zqam' zqre' zqh' zqtk' zql1 zql2 zqF' zqN'; (have lu1 := Mine.lts_up zql1 zql2); (try dsimp +zetaDelta only [List.map] at lu1); (try k_lt zql1); (try k_sweep); (try dsimp only); (try ((fail_if_success (fail_if_success k_fold)); (with_reducible refine Mine.wp_fold ?_); intro zqq zqe))) | ((fail_if_success (fail_if_success (with_reducible show wpAny _ _ (call (Value.ref (578 : Nat)) _) _ _ _))); k_dflt (refine' Mine.bt_ok (by k_asm) (by k_asm) (by k_asm) (by k_asm) (by k_asm) (by ktr_room) (by ktr_units) ?_); intro zqx' zqh' zqtk' zqF' zqN'; (try k_sweep); (try dsimp only); (try ((fail_if_success (fail_if_success k_fold)); (with_reducible refine Mine.wp_fold ?_); intro zqq zqe))) | ((fail_if_success (fail_if_success (with_reducible show wpAny _ _ (call (Value.ref (1027 : Nat)) [Value.ref _, Value.int _ _]) _ _ _))); k_dflt (refine' Mine.draw_ok (by k_asm) (by k_asm) (by k_asm) (by k_asm) (by k_asm) (by first | exact rfl | assumption) (by (intro zqo'; k_upd)) (by (intro zqo₁ zqo'; k_upd)) (by l_ints) (by first | assumption | omega) (by first | decide | omega) (by first | decide | omega) (by ktr_room) (by ktr_units) ?_); intro zqr' zqt' zqh' zqtk' zqvs' zqns' zqk' zqtk2' zqn' zqnc' zqhr0' zqhr1' zqhi' zqhl' zqF' zqN'; (try dsimp only at zqN'); (try k_sweep); (try dsimp only); (try ((fail_if_success (fail_if_success k_fold)); (with_reducible refine Mine.wp_fold ?_); intro zqq zqe))) | (k_dflt (first | (refine' call_cls0 (by k_asm) (by k_asm) (by k_asm) (by k_is) (by k_is) ?_; k_whole; intro zqx zqd zqh zqF zqN zql1 zql2; (try ((have zqU := Mine.lts_up zql1 zql2); (dsimp +zetaDelta only [List.map] at zqU))); (try k_lt zql1); (try k_lt2 zql2); (try k_sweep)) | ((first | (refine' call_cls (by k_asm) (by k_asm) (by k_asm) (by k_is) (by k_is) (by k_is) ?_; k_whole; intro zqx zqd zqh zqF zqN zql1 zql2; (try ((have zqU := Mine.lts_up zql1 zql2); (dsimp +zetaDelta only [List.map] at zqU))); (try k_lt zql1); (try k_lt2 zql2); (try k_sweep)) | (refine' Mine.call_fn (by k_asm) (by k_is) ?_; k_whole) | (refine' call_meth (by k_asm) (by k_mem) ?_; k_whole) | refine wpAny_call ?_); (first | (refine' code_defL (by exact rfl) (by exact rfl) (by first | exact rfl | assumption) (by k_asm) (by k_asm) (by k_asm) (by k_asm) (by k_asm) (by k_is) (by k_is) (by decide) (by ktr_room) (by first | exact BindsTo.of_eq rfl | exact binds_K (by k_in) rfl (by k_is) rfl rfl rfl) (by exact locs rfl) (by exact rfl) (by exact rfl) (by exact rfl) ?_; k_whole; intro zqg zqL zqh zqtk zqFG zqF zqN zqB zqX zqT zqe zqA; (try k_lift zqB); (try ((fail_if_success (fail_if_success k_fold)); (with_reducible refine Mine.wp_fold ?_); intro zqq zqe))) | (refine' code_defCL (by exact rfl) (by exact rfl) (by exact rfl) (by k_asm) (by k_asm) (by k_asm) (by k_asm) (by k_asm) (by k_is) (by k_is) (by ktr_room) (by first | exact BindsTo.of_eq rfl | exact binds_K (by k_in) rfl (by k_is) rfl rfl rfl) (by exact rfl) (by decide +kernel) (by exact rfl) (by exact rfl) (by exact rfl) ?_; k_whole; intro zqg zqL zqh zqtk zqcells zqFG zqF zqN zqY zqB zqX zqT zql1 zqe zqA; (try k_lt zql1); k_cells zqY; (try simp only [List.cons_append, List.nil_append] at zqN); (try dsimp only); (try k_lift zqB); (try ((fail_if_success (fail_if_success k_fold)); (with_reducible refine Mine.wp_fold ?_); intro zqq zqe)))))))) | walk1 | (dsimp only; walk1) | ((with_reducible show wpAny _ _ _ _ _ _); dsimp only) | (leave1; walk_say "STEP leave1"; (first | (with_reducible refine (?_ : wpAny _ _ _ _ _ _)) | try dsimp only)))))
    all_goals first | exact (Value.none : Value) | exact (Str.ofString "" : Str) | exact ((0 : Nat) : Addr) | skip
    rename Fr _ _ _ _ => F6
    rename News _ _ _ _ => N6
    rename ∀ p ∈ (_ : List (Addr × Obj)), p ∈ (_ : List (Addr × Obj)) => hs6
    rename ∀ y ∈ (_ : List Value), ∃ r : Addr, _ => hy6
    rename ∀ p ∈ (_ : List (Addr × Obj)), Prod.fst p ≠ _ => ho6
    rename (@Ne Nat _ _) ∧ (@Ne Nat _ _) => hn6
    rename List.length _ = Int.toNat (2 + _) => hl6
    have me6 := hs6 _ (.tail _ (.head _))
    have med6 : (_, edO w.params (tokF [_, _, _, _, _, _, _, _, _, _, _, _, _, _, _, _, _, _, _, _, _, _, _, _, _, _, _, _, _, _, _, _, _]) _ _ _ _ _ _ _ _ (txt ks)) ∈ _ := hs6 _ (.tail _ (.tail _ (.head _)))
    refine' Mine.put_ok (own := _ :: _ :: _) ?k1 F6 ?k3 (cb_drop N6 (List.forall_mem_cons.mpr ⟨.tail _ (.tail _ (.head _)), List.forall_mem_cons.mpr ⟨.head _, List.forall_mem_cons.mpr ⟨.tail _ (.head _), fun q hq => .tail _ (.tail _ (.tail _ hq))⟩⟩⟩)) ?k5 (.head _) (.tail _ (.head _)) (.tail _ (.tail _ me6)) (.tail _ (.tail _ med6))
      (List.forall_mem_cons.mpr ⟨hn6.1, List.forall_mem_cons.mpr ⟨hn6.2, ho6⟩⟩) hl6 (fun y hm => by
        obtain ⟨r, e1, h1⟩ := hy6 y hm
        exact ⟨r, e1, .tail _ (.tail _ h1)⟩) ?hm ?w1 ?w2 ?w3 ?w4 ?kd ?ku ?_
    case k1 => k_asm
    case k3 => k_asm
    case k5 => k_asm
    case hm => omega
    case w1 => omega
    case w2 => omega
    case w3 => omega
    case w4 => omega
    case kd => ktr_room
    case ku => ktr_units
    intro ys8 own8 h8 tk8 hs8 hoff8 hrows8 F8 N8
    have me8 := hs8 _ (.tail _ (.tail _ me6))
    have med8 := hs8 _ (.tail _ (.tail _ med6))
    have mx8 := hs8 _ (.head _)
    have mmd8 := hs8 _ (.tail _ (.head _))
    clear F6 N6 hs6 hy6 ho6 me6 med6
    (try dsimp only); (try ((fail_if_success (fail_if_success k_fold)); (with_reducible refine Mine.wp_fold ?_); intro zqq zqe))
    repeat' ((fail_if_success (with_reducible show LCg.CompSrc _ _ _ _ _ _ _ _ _ _ _ _ _ _)); (fail_if_success (with_reducible show wpAny _ _ (exec (PySem.Stmt.While _ _ _ _) _) _ _ _)); (fail_if_success (with_reducible show wpAny _ _ (compareOp CmpOp.Eq (Value.ref _) (Value.ref _)) _ _ _)); ((first | ((fail_if_success (fail_if_success k_unfold)); (first | (with_reducible refine (?_ : wpAny _ _ _ _ _ _)) | (k_unfold; (try dsimp only)))) | ((fail_if_success (fail_if_success k_fold)); (first | (goal_has PySem.exec; (fail_if_success (fail_if_success (with_reducible show wpAny _ _ (exec _ _) _ _ _)))) | (goal_has PySem.Expr.BoolOp; (fail_if_success (fail_if_success (with_reducible show wpAny _ _ (eval (PySem.Expr.BoolOp _ _ _) _) _ _ _)))) | (goal_has PySem.Expr.Call; (fail_if_success (fail_if_success (with_reducible show wpAny _ _ (eval (PySem.Expr.Call _ _ _ _) _) _ _ _)))) | (goal_has PySem.Expr.Compare; (fail_if_success (fail_if_success (with_reducible show wpAny _ _ (eval (PySem.Expr.Compare _ _ _ _) _) _ _ _))))); (with_reducible refine Mine.wp_fold ?_); intro zqq zqe) | (goal_has PySem.Shared.mk; (with_reducible refine Mine.st_let ?_); intro zqs; goal_lacks PySem.Shared.mk) | ((ctx_mentions ite List.lookup); (rename Fr _ _ _ _ => zqF9); revert zqF9; (goal_has ite List.lookup); (with_reducible refine Mine.fr_let ?_); intro zqm; goal_lacks ite List.lookup; intro zqF) | ((ctx_mentions List.cons HAppend.hAppend List.append); (rename News _ _ _ _ => zqN9); (fail_if_success (fail_if_success (conv at zqN9 => arg 4; arg 2))); (with_reducible refine Mine.news_let zqN9 ?_); intro zql zqN; clear zqN9) | (k_end; wrow_close) | (goal_has PySem.Value.builtin; ((try simp only [List.cons_append, List.nil_append]); (with_reducible show wpAny _ _ (call (Value.builtin _) [Value.str _ _, Value.ref _]) _ _ _); k_dflt (refine' Mine.join_made (by k_asm) (by k_mem) (by assumption) (by omega) ?_); intro zqt' zqk')) | (goal_has binaryOp; ((fail_if_success (fail_if_success (with_reducible show wpAny _ _ (binaryOp Operator.Mult (Value.ref _) (Value.int _ _)) _ _ _))); k_dflt (refine' Mine.rep_val (by k_asm) (by k_asm) (by k_mem) (by first | decide | omega) (by first | decide | omega) ?_); intro zqD' zqh' zqF' zqN' zql1; (try k_lt zql1); (try k_sweep))) | (goal_has call; (fail_if_success (fail_if_success (with_reducible show wpAny _ _ (call (Value.ref _) _ _) _ _ _))); first | ((fail_if_success (fail_if_success (with_reducible show wpAny _ _ (call (Value.ref (137 : Nat)) [Value.ref _]) _ _ _))); k_dflt (refine' Mine.texts_ok (by k_asm) (by k_asm) (by k_asm) (by k_asm) (by k_asm) (by k_mem) (by k_mem) (by k_mem) (by exact Mine.rows_sub (by assumption)) (by assumption) (by assumption) (by ktr_room) (by ktr_units) ?_); intro zqD' zqzs' zqh' zqtk' zqhz' zqF' zqN'; (try k_sweep); (try dsimp only); (try ((fail_if_success (fail_if_success k_fold)); (with_reducible refine Mine.wp_fold ?_); intro zqq zqe))) | ((fail_if_success (fail_if_success (with_reducible show wpAny _ _ (call (Value.ref (842 : Nat)) [Value.int _ _, Value.int _ _]) _ _ _))); k_dflt (refine' Mine.matrix_ok (by k_asm) (by k_asm) (by k_asm) (by k_asm) (by k_asm) (by omega) (by omega) (by omega) (by omega) (by ktr_room) (by ktr_units) ?_); intro zqx' zqmd' zqrs' zqcu' zqT' zqys' zqnr' zqown' zqh' zqtk' zqhsub' zqhyl' zqhy' zqhoff' zqhne' zqF' zqN'; (try k_sweep); (try dsimp only); (try ((fail_if_success (fail_if_success k_fold)); (with_reducible refine Mine.wp_fold ?_); intro zqq zqe))) | ((fail_if_success (fail_if_success (with_reducible show wpAny _ _ (call (Value.ref (810 : Nat)) [Value.ref _, Value.none, Value.none]) _ _ _))); k_dflt (refine' Mine.editor_ok (by k_asm) (by k_asm) (by k_asm) (by k_asm) (by k_asm) (by ktr_room) (by ktr_units) ?_); intro zqx' zqed' zqT' zqlm' zqmm' zqud' zqmk' zqam' zqre' zqh' zqtk' zql1 zql2 zqF' zqN'; (have lu1 := Mine.lts_up zql1 zql2); (try dsimp +zetaDelta only [List.map] at lu1); (try k_lt zql1); (try k_sweep); (try dsimp only); (try ((fail_if_success (fail_if_success k_fold)); (with_reducible refine Mine.wp_fold ?_); intro zqq zqe))) | ((fail_if_success (fail_if_success (with_reducible show wpAny _ _ (call (Value.ref (578 : Nat)) _) _ _ _))); k_dflt (refine' Mine.bt_ok (by k_asm) (by k_asm) (by k_asm) (by k_asm) (by k_asm) (by ktr_room) (by ktr_units) ?_); intro zqx' zqh' zqtk' zqF' zqN'; (try k_sweep); (try dsimp only); (try ((fail_if_success (fail_if_success k_fold)); (with_reducible refine Mine.wp_fold ?_); intro zqq zqe))) | ((fail_if_success (fail_if_success (with_reducible show wpAny _ _ (call (Value.ref (1027 : Nat)) [Value.ref _, Value.int _ _]) _ _ _))); k_dflt (refine' Mine.draw_ok (by k_asm) (by k_asm) (by k_asm) (by k_asm) (by k_asm) (by first | exact rfl | assumption) (by (intro zqo'; k_upd)) (by (intro zqo₁ zqo'; k_upd)) (by l_ints) (by first | assumption | omega) (by first | decide | omega) (by first | decide | omega) (by ktr_room) (by ktr_units) ?_); intro zqr' zqt' zqh' zqtk' zqvs' zqns' zqk' zqtk2' zqn' zqnc' zqhr0' zqhr1' zqhi' zqhl' zqF' zqN'; (try dsimp only at zqN'); (try k_sweep); (try dsimp only); (try ((fail_if_success (fail_if_success k_fold)); (with_reducible refine Mine.wp_fold ?_); intro zqq zqe))) | (k_dflt (first | (refine' call_cls0 (by k_asm) (by k_asm) (by k_asm) (by k_is) (by k_is) ?_; k_whole; intro zqx zqd zqh zqF zqN zql1 zql2; (try ((have zqU := Mine.lts_up zql1 zql2); (dsimp +zetaDelta only [List.map] at zqU))); (try k_lt zql1); (try k_lt2 zql2); (try k_sweep)) | ((first | (refine' call_cls (by k_asm) (by k_asm) (by k_asm) (by k_is) (by k_is) (by k_is) ?_; k_whole; intro zqx zqd zqh zqF zqN zql1 zql2; (try ((have zqU := Mine.lts_up zql1 zql2); (dsimp +zetaDelta only [List.map] at zqU))); (try k_lt zql1); (try k_lt2 zql2); (try k_sweep)) | (refine' Mine.call_fn (by k_asm) (by k_is) ?_; k_whole) | (refine' call_meth (by k_asm) (by k_mem) ?_; k_whole) | refine wpAny_call ?_); (first | (refine' code_defL (by exact rfl) (by exact rfl) (by first | exact rfl | assumption) (by k_asm) (by k_asm) (by k_asm) (by k_asm) (by k_asm) (by k_is) (by k_is) (by decide) (by ktr_room) (by first | exact BindsTo.of_eq rfl | exact binds_K (by k_in) rfl (by k_is) rfl rfl rfl) (by exact locs rfl) (by exact rfl) (by exact rfl) (by exact rfl) ?_; k_whole; intro zqg zqL zqh zqtk zqFG zqF zqN zqB zqX zqT zqe zqA; (try k_lift zqB); (try ((fail_if_success (fail_if_success k_fold)); (with_reducible refine Mine.wp_fold ?_); intro zqq zqe))) | (refine' code_defCL (by exact rfl) (by exact rfl) (by exact rfl) (by k_asm) (by k_asm) (by k_asm) (by k_asm) (by k_asm) (by k_is) (by k_is) (by ktr_room) (by first | exact BindsTo.of_eq rfl | exact binds_K (by k_in) rfl (by k_is) rfl rfl rfl) (by exact rfl) (by decide +kernel) (by exact rfl) (by exact rfl) (by exact rfl) ?_; k_whole; intro zqg zqL zqh zqtk zqcells zqFG zqF zqN zqY zqB zqX zqT zql1 zqe zqA; (try k_lt zql1); k_cells zqY; (try simp only [List.cons_append, List.nil_append] at zqN); (try dsimp only); (try k_lift zqB); (try ((fail_if_success (fail_if_success k_fold)); (with_reducible refine Mine.wp_fold ?_); intro zqq zqe)))))))) | walk1 | (dsimp only; walk1) | ((with_reducible show wpAny _ _ _ _ _ _); dsimp only) | (leave1; walk_say "STEP leave1"; (first | (with_reducible refine (?_ : wpAny _ _ _ _ _ _)) | try dsimp only)))))
    all_goals first | exact (Value.none : Value) | exact (Str.ofString "" : Str) | exact ((0 : Nat) : Addr) | skip
    rename Fr _ _ _ _ => F7
    rename News _ _ _ _ => N7
    obtain ⟨t7, ht7⟩ := fr_str (x := Str.ofString "shown") F7 rfl
    have hmx7 := fr_at F7 (x := Str.ofString "matrix") (v := .ref _) rfl
    obtain ⟨th, hth⟩ := fr_int (x := Str.ofString "height") F7 rfl
    have hl7 := rows_len (wd := wdOf hrows8) (ht := htOf hrows8) (msg := ks) (by (dsimp only [htOf]; omega))
    have hs7 := rows_small (wd := wdOf hrows8) (ht := htOf hrows8) hok
    dsimp only [wdOf, htOf] at hl7 hs7
    have h2 : 2 ≤ wdOf hrows8 ∧ wdOf hrows8 ≤ 9 := by (dsimp only [wdOf]; constructor <;> omega)
    refine' while_led (σ := Str × List Nat × Tok) (fun _ => _) (fun c => [(Str.ofString "shown", .str c.1 c.2.2), (Str.ofString "matrix", .ref _), (Str.ofString "height", .int _ th)])
      (fun c => c.1 = txt c.2.1 ∧ strp c.2.1 = strp (ks.take (wdOf hrows8).toNat) ∧ c.2.1.length ≤ 11) (fun c => c.2.1.length) (_, ks.take (wdOf hrows8).toNat, t7) F7 N7 (all_cons ht7 (all_cons hmx7 (all_cons hth all_nil))) ⟨?j0, rfl, ?j1⟩ ?_
    case j0 => exact txt_upto _ (by omega)
    case j1 => (dsimp only; rw [List.length_take]; omega)
    clear ht7 hmx7 hth F7 N7
    intro c u h tk hj F' N'
    obtain ⟨x9, l9, tl9⟩ := c
    obtain ⟨hj0, hj1, hj2⟩ := hj
    dsimp only at hj0 hj1 hj2 F' N' ⊢
    subst hj0
    repeat' ((fail_if_success (with_reducible show LCg.CompSrc _ _ _ _ _ _ _ _ _ _ _ _ _ _)); (fail_if_success (with_reducible show wpAny _ _ (exec (PySem.Stmt.While _ _ _ _) _) _ _ _)); (fail_if_success (with_reducible show wpAny _ _ (compareOp CmpOp.Eq (Value.ref _) (Value.ref _)) _ _ _)); ((first | ((fail_if_success (fail_if_success k_unfold)); (first | (with_reducible refine (?_ : wpAny _ _ _ _ _ _)) | (k_unfold; (try dsimp only)))) | ((fail_if_success (fail_if_success k_fold)); (first | (goal_has PySem.exec; (fail_if_success (fail_if_success (with_reducible show wpAny _ _ (exec _ _) _ _ _)))) | (goal_has PySem.Expr.BoolOp; (fail_if_success (fail_if_success (with_reducible show wpAny _ _ (eval (PySem.Expr.BoolOp _ _ _) _) _ _ _)))) | (goal_has PySem.Expr.Call; (fail_if_success (fail_if_success (with_reducible show wpAny _ _ (eval (PySem.Expr.Call _ _ _ _) _) _ _ _)))) | (goal_has PySem.Expr.Compare; (fail_if_success (fail_if_success (with_reducible show wpAny _ _ (eval (PySem.Expr.Compare _ _ _ _) _) _ _ _))))); (with_reducible refine Mine.wp_fold ?_); intro zqq zqe) | (goal_has PySem.Shared.mk; (with_reducible refine Mine.st_let ?_); intro zqs; goal_lacks PySem.Shared.mk) | ((ctx_mentions ite List.lookup); (rename Fr _ _ _ _ => zqF9); revert zqF9; (goal_has ite List.lookup); (with_reducible refine Mine.fr_let ?_); intro zqm; goal_lacks ite List.lookup; intro zqF) | ((ctx_mentions List.cons HAppend.hAppend List.append); (rename News _ _ _ _ => zqN9); (fail_if_success (fail_if_success (conv at zqN9 => arg 4; arg 2))); (with_reducible refine Mine.news_let zqN9 ?_); intro zql zqN; clear zqN9) | (k_end; wrow_close) | (goal_has PySem.Value.builtin; ((try simp only [List.cons_append, List.nil_append]); (with_reducible show wpAny _ _ (call (Value.builtin _) [Value.str _ _, Value.ref _]) _ _ _); k_dflt (refine' Mine.join_made (by k_asm) (by k_mem) (by assumption) (by omega) ?_); intro zqt' zqk')) | (goal_has binaryOp; ((fail_if_success (fail_if_success (with_reducible show wpAny _ _ (binaryOp Operator.Mult (Value.ref _) (Value.int _ _)) _ _ _))); k_dflt (refine' Mine.rep_val (by k_asm) (by k_asm) (by k_mem) (by first | decide | omega) (by first | decide | omega) ?_); intro zqD' zqh' zqF' zqN' zql1; (try k_lt zql1); (try k_sweep))) | (goal_has call; (fail_if_success (fail_if_success (with_reducible show wpAny _ _ (call (Value.ref _) _ _) _ _ _))); first | ((fail_if_success (fail_if_success (with_reducible show wpAny _ _ (call (Value.ref (137 : Nat)) [Value.ref _]) _ _ _))); k_dflt (refine' Mine.texts_ok (by k_asm) (by k_asm) (by k_asm) (by k_asm) (by k_asm) (by k_mem) (by k_mem) (by k_mem) (by exact Mine.rows_sub (by assumption)) (by assumption) (by assumption) (by ktr_room) (by ktr_units) ?_); intro zqD' zqzs' zqh' zqtk' zqhz' zqF' zqN'; (try k_sweep); (try dsimp only); (try ((fail_if_success (fail_if_success k_fold)); (with_reducible refine Mine.wp_fold ?_); intro zqq zqe))) | ((fail_if_success (fail_if_success (with_reducible show wpAny _ _ (call (Value.ref (842 : Nat)) [Value.int _ _, Value.int _ _]) _ _ _))); k_dflt (refine' Mine.matrix_ok (by k_asm) (by k_asm) (by k_asm) (by k_asm) (by k_asm) (by omega) (by omega) (by omega) (by omega) (by ktr_room) (by ktr_units) ?_); intro zqx' zqmd' zqrs' zqcu' zqT' zqys' zqnr' zqown' zqh' zqtk' zqhsub' zqhyl' zqhy' zqhoff' zqhne' zqF' zqN'; (try k_sweep); (try dsimp only); (try ((fail_if_success (fail_if_success k_fold)); (with_reducible refine Mine.wp_fold ?_); intro zqq zqe))) | ((fail_if_success (fail_if_success (with_reducible show wpAny _ _ (call (Value.ref (810 : Nat)) [Value.ref _, Value.none, Value.none]) _ _ _))); k_dflt (refine' Mine.editor_ok (by k_asm) (by k_asm) (by k_asm) (by k_asm) (by k_asm) (by ktr_room) (by ktr_units) ?_); intro zqx' zqed' zqT' zqlm' zqmm' zqud' zqmk' zqam' zqre' zqh' zqtk' zql1 zql2 zqF' zqN'; (have lu1 := Mine.lts_up zql1 zql2); (try dsimp +zetaDelta only [List.map] at lu1); (try k_lt zql1); (try k_sweep); (try dsimp only); (try ((fail_if_success (fail_if_success k_fold)); (with_reducible refine Mine.wp_fold ?_); intro zqq zqe))) | ((fail_if_success (fail_if_success (with_reducible show wpAny _ _ (call (Value.ref (578 : Nat)) _) _ _ _))); k_dflt (refine' Mine.bt_ok (by k_asm) (by k_asm) (by k_asm) (by k_asm) (by k_asm) (by ktr_room) (by ktr_units) ?_); intro zqx' zqh' zqtk' zqF' zqN'; (try k_sweep); (try dsimp only); (try ((fail_if_success (fail_if_success k_fold)); (with_reducible refine Mine.wp_fold ?_); intro zqq zqe))) | ((fail_if_success (fail_if_success (with_reducible show wpAny _ _ (call (Value.ref (1027 : Nat)) [Value.ref _, Value.int _ _]) _ _ _))); k_dflt (refine' Mine.draw_ok (by k_asm) (by k_asm) (by k_asm) (by k_asm) (by k_asm) (by first | exact rfl | assumption) (by (intro zqo'; k_upd)) (by (intro zqo₁ zqo'; k_upd)) (by l_ints) (by first | assumption | omega) (by first | decide | omega) (by first | decide | omega) (by ktr_room) (by ktr_units) ?_); intro zqr' zqt' zqh' zqtk' zqvs' zqns' zqk' zqtk2' zqn' zqnc' zqhr0' zqhr1' zqhi' zqhl' zqF' zqN'; (try dsimp only at zqN'); (try k_sweep); (try dsimp only); (try ((fail_if_success (fail_if_success k_fold)); (with_reducible refine Mine.wp_fold ?_); intro zqq zqe))) | (k_dflt (first | (refine' call_cls0 (by k_asm) (by k_asm) (by k_asm) (by k_is) (by k_is) ?_; k_whole; intro zqx zqd zqh zqF zqN zql1 zql2; (try ((have zqU := Mine.lts_up zql1 zql2); (dsimp +zetaDelta only [List.map] at zqU))); (try k_lt zql1); (try k_lt2 zql2); (try k_sweep)) | ((first | (refine' call_cls (by k_asm) (by k_asm) (by k_asm) (by k_is) (by k_is) (by k_is) ?_; k_whole; intro zqx zqd zqh zqF zqN zql1 zql2; (try ((have zqU := Mine.lts_up zql1 zql2); (dsimp +zetaDelta only [List.map] at zqU))); (try k_lt zql1); (try k_lt2 zql2); (try k_sweep)) | (refine' Mine.call_fn (by k_asm) (by k_is) ?_; k_whole) | (refine' call_meth (by k_asm) (by k_mem) ?_; k_whole) | refine wpAny_call ?_); (first | (refine' code_defL (by exact rfl) (by exact rfl) (by first | exact rfl | assumption) (by k_asm) (by k_asm) (by k_asm) (by k_asm) (by k_asm) (by k_is) (by k_is) (by decide) (by ktr_room) (by first | exact BindsTo.of_eq rfl | exact binds_K (by k_in) rfl (by k_is) rfl rfl rfl) (by exact locs rfl) (by exact rfl) (by exact rfl) (by exact rfl) ?_; k_whole; intro zqg zqL zqh zqtk zqFG zqF zqN zqB zqX zqT zqe zqA; (try k_lift zqB); (try ((fail_if_success (fail_if_success k_fold)); (with_reducible refine Mine.wp_fold ?_); intro zqq zqe))) | (refine' code_defCL (by exact rfl) (by exact rfl) (by exact rfl) (by k_asm) (by k_asm) (by k_asm) (by k_asm) (by k_asm) (by k_is) (by k_is) (by ktr_room) (by first | exact BindsTo.of_eq rfl | exact binds_K (by k_in) rfl (by k_is) rfl rfl rfl) (by exact rfl) (by decide +kernel) (by exact rfl) (by exact rfl) (by exact rfl) ?_; k_whole; intro zqg zqL zqh zqtk zqcells zqFG zqF zqN zqY zqB zqX zqT zql1 zqe zqA; (try k_lt zql1); k_cells zqY; (try simp only [List.cons_append, List.nil_append] at zqN); (try dsimp only); (try k_lift zqB); (try ((fail_if_success (fail_if_success k_fold)); (with_reducible refine Mine.wp_fold ?_); intro zqq zqe)))))))) | walk1 | (dsimp only; walk1) | ((with_reducible show wpAny _ _ _ _ _ _); dsimp only) | (leave1; walk_say "STEP leave1"; (first | (with_reducible refine (?_ : wpAny _ _ _ _ _ _)) | try dsimp only)))))
    all_goals first | exact (Value.none : Value) | exact (Str.ofString "" : Str) | exact ((0 : Nat) : Addr) | skip
    · rename (_ == _) = true => hq9
      rename Fr _ _ _ _ => F9
      rename News _ _ _ _ => N9
      obtain ⟨r9, e0, e1, e2⟩ := strp_cut hq9
      obtain ⟨t9, ht9⟩ := fr_str (x := Str.ofString "shown") F9 rfl
      refine wl_next (_, r9, t9) F9 N9 (all_cons ht9 (all_cons (fr_at F9 rfl) (all_cons (fr_at F9 rfl) all_nil))) (fun q hq => hq) ?_ ⟨e1, e2.symm.trans hj1, ?_⟩
      · dsimp only
        rw [e0, List.length_append]
        exact Nat.lt_succ_self _
      · dsimp only
        rw [e0, List.length_append] at hj2
        omega
    · rename (_ == _) = false => hq9
      rename StrsAre _ (List.map (fun l => txt (strp l)) _) => hz9
      have e9 := strp_end hq9
      rw [rows_texts] at hz9
      dsimp only [wdOf] at hj1
      rw [← hj1, e9] at hz9
      rename News _ _ _ _ => N9
      refine eq_strs N9 (.tail _ (.tail _ (.tail _ (.tail _ (.head _))))) (.head _) hz9 (strs_app (strs_rep _) (.cons _ _ .nil)) ?ho ?hu ?_
      case ho =>
        intro x hx
        rcases List.mem_append.mp hx with hx | hx
        · rw [(List.mem_replicate.mp hx).2]
          exact ok_txt fun _ h => nomatch h
        · rw [List.mem_singleton.mp hx, ← e9, hj1]
          exact ok_txt fun k hk => hok k (List.mem_of_mem_take (strp_sub hk))
      case hu => ktr_units
      repeat' ((first | ((fail_if_success (fail_if_success k_unfold)); (first | (with_reducible refine (?_ : wpAny _ _ _ _ _ _)) | (k_unfold; (try dsimp only)))) | ((fail_if_success (fail_if_success k_fold)); (first | (goal_has PySem.exec; (fail_if_success (fail_if_success (with_reducible show wpAny _ _ (exec _ _) _ _ _)))) | (goal_has PySem.Expr.BoolOp; (fail_if_success (fail_if_success (with_reducible show wpAny _ _ (eval (PySem.Expr.BoolOp _ _ _) _) _ _ _)))) | (goal_has PySem.Expr.Call; (fail_if_success (fail_if_success (with_reducible show wpAny _ _ (eval (PySem.Expr.Call _ _ _ _) _) _ _ _)))) | (goal_has PySem.Expr.Compare; (fail_if_success (fail_if_success (with_reducible show wpAny _ _ (eval (PySem.Expr.Compare _ _ _ _) _) _ _ _))))); (with_reducible refine Mine.wp_fold ?_); intro zqq zqe) | (goal_has PySem.Shared.mk; (with_reducible refine Mine.st_let ?_); intro zqs; goal_lacks PySem.Shared.mk) | ((ctx_mentions ite List.lookup); (rename Fr _ _ _ _ => zqF9); revert zqF9; (goal_has ite List.lookup); (with_reducible refine Mine.fr_let ?_); intro zqm; goal_lacks ite List.lookup; intro zqF) | ((ctx_mentions List.cons HAppend.hAppend List.append); (rename News _ _ _ _ => zqN9); (fail_if_success (fail_if_success (conv at zqN9 => arg 4; arg 2))); (with_reducible refine Mine.news_let zqN9 ?_); intro zql zqN; clear zqN9) | (k_end; wrow_close) | (goal_has PySem.Value.builtin; ((try simp only [List.cons_append, List.nil_append]); (with_reducible show wpAny _ _ (call (Value.builtin _) [Value.str _ _, Value.ref _]) _ _ _); k_dflt (refine' Mine.join_made (by k_asm) (by k_mem) (by assumption) (by omega) ?_); intro zqt' zqk')) | (goal_has binaryOp; ((fail_if_success (fail_if_success (with_reducible show wpAny _ _ (binaryOp Operator.Mult (Value.ref _) (Value.int _ _)) _ _ _))); k_dflt (refine' Mine.rep_val (by k_asm) (by k_asm) (by k_mem) (by first | decide | omega) (by first | decide | omega) ?_); intro zqD' zqh' zqF' zqN' zql1; (try k_lt zql1); (try k_sweep))) | (goal_has call; (fail_if_success (fail_if_success (with_reducible show wpAny _ _ (call (Value.ref _) _ _) _ _ _))); first | ((fail_if_success (fail_if_success (with_reducible show wpAny _ _ (call (Value.ref (137 : Nat)) [Value.ref _]) _ _ _))); k_dflt (refine' Mine.texts_ok (by k_asm) (by k_asm) (by k_asm) (by k_asm) (by k_asm) (by k_mem) (by k_mem) (by k_mem) (by exact Mine.rows_sub (by assumption)) (by assumption) (by assumption) (by ktr_room) (by ktr_units) ?_); intro zqD' zqzs' zqh' zqtk' zqhz' zqF' zqN'; (try k_sweep); (try dsimp only); (try ((fail_if_success (fail_if_success k_fold)); (with_reducible refine Mine.wp_fold ?_); intro zqq zqe))) | ((fail_if_success (fail_if_success (with_reducible show wpAny _ _ (call (Value.ref (842 : Nat)) [Value.int _ _, Value.int _ _]) _ _ _))); k_dflt (refine' Mine.matrix_ok (by k_asm) (by k_asm) (by k_asm) (by k_asm) (by k_asm) (by omega) (by omega) (by omega) (by omega) (by ktr_room) (by ktr_units) ?_); intro zqx' zqmd' zqrs' zqcu' zqT' zqys' zqnr' zqown' zqh' zqtk' zqhsub' zqhyl' zqhy' zqhoff' zqhne' zqF' zqN'; (try k_sweep); (try dsimp only); (try ((fail_if_success (fail_if_success k_fold)); (with_reducible refine Mine.wp_fold ?_); intro zqq zqe))) | ((fail_if_success (fail_if_success (with_reducible show wpAny _ _ (call (Value.ref (810 : Nat)) [Value.ref _, Value.none, Value.none]) _ _ _))); k_dflt (refine' Mine.editor_ok (by k_asm) (by k_asm) (by k_asm) (by k_asm) (by k_asm) (by ktr_room) (by ktr_units) ?_); intro zqx' zqed' zqT' zqlm' zqmm' zqud' zqmk' zqam' zqre' zqh' zqtk' zql1 zql2 zqF' zqN'; (have lu1 := Mine.lts_up zql1 zql2); (try dsimp +zetaDelta only [List.map] at lu1); (try k_lt zql1); (try k_sweep); (try dsimp only); (try ((fail_if_success (fail_if_success k_fold)); (with_reducible refine Mine.wp_fold ?_); intro zqq zqe))) | ((fail_if_success (fail_if_success (with_reducible show wpAny _ _ (call (Value.ref (578 : Nat)) _) _ _ _))); k_dflt (refine' Mine.bt_ok (by k_asm) (by k_asm) (by k_asm) (by k_asm) (by k_asm) (by ktr_room) (by ktr_units) ?_); intro zqx' zqh' zqtk' zqF' zqN'; (try k_sweep); (try dsimp only); (try ((fail_if_success (fail_if_success k_fold)); (with_reducible refine Mine.wp_fold ?_); intro zqq zqe))) | ((fail_if_success (fail_if_success (with_reducible show wpAny _ _ (call (Value.ref (1027 : Nat)) [Value.ref _, Value.int _ _]) _ _ _))); k_dflt (refine' Mine.draw_ok (by k_asm) (by k_asm) (by k_asm) (by k_asm) (by k_asm) (by first | exact rfl | assumption) (by (intro zqo'; k_upd)) (by (intro zqo₁ zqo'; k_upd)) (by l_ints) (by first | assumption | omega) (by first | decide | omega) (by first | decide | omega) (by ktr_room) (by ktr_units) ?_); intro zqr' zqt' zqh' zqtk' zqvs' zqns' zqk' zqtk2' zqn' zqnc' zqhr0' zqhr1' zqhi' zqhl' zqF' zqN'; (try dsimp only at zqN'); (try k_sweep); (try dsimp only); (try ((fail_if_success (fail_if_success k_fold)); (with_reducible refine Mine.wp_fold ?_); intro zqq zqe))) | (k_dflt (first | (refine' call_cls0 (by k_asm) (by k_asm) (by k_asm) (by k_is) (by k_is) ?_; k_whole; intro zqx zqd zqh zqF zqN zql1 zql2; (try ((have zqU := Mine.lts_up zql1 zql2); (dsimp +zetaDelta only [List.map] at zqU))); (try k_lt zql1); (try k_lt2 zql2); (try k_sweep)) | ((first | (refine' call_cls (by k_asm) (by k_asm) (by k_asm) (by k_is) (by k_is) (by k_is) ?_; k_whole; intro zqx zqd zqh zqF zqN zql1 zql2; (try ((have zqU := Mine.lts_up zql1 zql2); (dsimp +zetaDelta only [List.map] at zqU))); (try k_lt zql1); (try k_lt2 zql2); (try k_sweep)) | (refine' Mine.call_fn (by k_asm) (by k_is) ?_; k_whole) | (refine' call_meth (by k_asm) (by k_mem) ?_; k_whole) | refine wpAny_call ?_); (first | (refine' code_defL (by exact rfl) (by exact rfl) (by first | exact rfl | assumption) (by k_asm) (by k_asm) (by k_asm) (by k_asm) (by k_asm) (by k_is) (by k_is) (by decide) (by ktr_room) (by first | exact BindsTo.of_eq rfl | exact binds_K (by k_in) rfl (by k_is) rfl rfl rfl) (by exact locs rfl) (by exact rfl) (by exact rfl) (by exact rfl) ?_; k_whole; intro zqg zqL zqh zqtk zqFG zqF zqN zqB zqX zqT zqe zqA; (try k_lift zqB); (try ((fail_if_success (fail_if_success k_fold)); (with_reducible refine Mine.wp_fold ?_); intro zqq zqe))) | (refine' code_defCL (by exact rfl) (by exact rfl) (by exact rfl) (by k_asm) (by k_asm) (by k_asm) (by k_asm) (by k_asm) (by k_is) (by k_is) (by ktr_room) (by first | exact BindsTo.of_eq rfl | exact binds_K (by k_in) rfl (by k_is) rfl rfl rfl) (by exact rfl) (by decide +kernel) (by exact rfl) (by exact rfl) (by exact rfl) ?_; k_whole; intro zqg zqL zqh zqtk zqcells zqFG zqF zqN zqY zqB zqX zqT zql1 zqe zqA; (try k_lt zql1); k_cells zqY; (try simp only [List.cons_append, List.nil_append] at zqN); (try dsimp only); (try k_lift zqB); (try ((fail_if_success (fail_if_success k_fold)); (with_reducible refine Mine.wp_fold ?_); intro zqq zqe)))))))) | walk1 | (dsimp only; walk1) | ((with_reducible show wpAny _ _ _ _ _ _); dsimp only) | (leave1; walk_say "STEP leave1"; (first | (with_reducible refine (?_ : wpAny _ _ _ _ _ _)) | try dsimp only))))
      exact ret _ _ (by assumption)
  )) only [↓Mine.wrap_i]
end
theorem hdT.tw10455831025786554624 : True := trivial
theorem hdT.tw12075798389446317345 : True := trivial
theorem hdT.tw17503234862005985249 : True := trivial
theorem hdT.tw517930130734770147 : True := trivial
theorem hdT.tw17495586098923313924 : True := trivial
theorem hdT.tw8616971507025133447 : True := trivial
theorem hdT.tw5683861236071738728 : True := trivial
theorem hdT.tw11104132804032714632 : True := trivial
theorem hdT.tw1826989372186859017 : True := trivial
theorem hdT.tw8177779890672370601 : True := trivial
theorem hdT.tw8749434859236362604 : True := trivial
theorem hdT.tw8876666994346916620 : True := trivial
theorem hdT.tw9768588790930715821 : True := trivial
theorem hdT.tw6774220670347699053 : True := trivial
theorem hdT.tw1776274062459803214 : True := trivial
theorem hdT.tw7084950837047997198 : True := trivial
theorem hdT.tw13967216320583697262 : True := trivial
theorem hdT.tw1856600395646996047 : True := trivial
theorem hdT.tw8667617204093395089 : True := trivial
theorem hdT.tw7952048119263906707 : True := trivial
theorem hdT.tw13640535814202434933 : True := trivial
theorem hdT.tw2027578449465540021 : True := trivial
theorem hdT.tw3025658902045244249 : True := trivial
theorem hdT.tw7279379563087823931 : True := trivial
theorem hdT.tw6811709499351394620 : True := trivial
theorem hdT.tw17299831315455123839 : True := trivial
theorem hdT.tw10312029553556132325 : True := trivial
theorem hdT.tw11474072394728222210 : True := trivial
theorem hdT.tw14239289350908617314 : True := trivial
theorem hdT.tw18157086518045136637 : True := trivial
theorem hdT.tw9881428037870011887 : True := trivial
theorem hdT.tw9451025747531858059 : True := trivial
theorem hdT.tw17318491242503451848 : True := trivial
theorem hdT.tw222358611838573069 : True := trivial
theorem hdT.tw6149350741310888888 : True := trivial
theorem hdT.tw15595976923621643440 : True := trivial
theorem hdT.tw3759710010112212565 : True := trivial
theorem hdT.tw404278092105103703 : True := trivial
theorem hdT.tw7071517568287590791 : True := trivial
theorem hdT.tw18440575318786485203 : True := trivial
theorem hdT.tw11757530532557608132 : True := trivial
theorem hdT.tw6089881760442619883 : True := trivial
theorem hdT.tw487194709873768154 : True := trivial
theorem hdT.tw3232902566179762624 : True := trivial
theorem hdT.tw17012835219290240407 : True := trivial
theorem hdT.tw3735789746554746543 : True := trivial
theorem hdT.tw10512983876303221748 : True := trivial
theorem hdT.tw4284608214837042114 : True := trivial
theorem hdT.tw9747532853796621756 : True := trivial
theorem hdT.tw92803350260385714 : True := trivial
theorem hdT.tw9615672326265013607 : True := trivial
theorem hdT.tw1378004814817118474 : True := trivial
theorem hdT.tw8739099295787217745 : True := trivial
theorem hdT.tw9257927824111913287 : True := trivial
theorem hdT.tw1036825053919208512 : True := trivial
theorem hdT.tw13878744182492127779 : True := trivial
theorem hdT.tw7378758851455175208 : True := trivial
theorem hdT.tw14789897882049059793 : True := trivial
theorem hdT.tw1432636759253371201 : True := trivial
theorem hdT.tw3750821004556546318 : True := trivial
theorem hdT.tw13038914319371988265 : True := trivial
theorem hdT.tw6412721170132791065 : True := trivial
theorem hdT.tw5205668749297161461 : True := trivial
theorem hdT.tw13190432942527766312 : True := trivial
theorem hdT.tw10709193492424063770 : True := trivial
theorem hdT.tw4719937437743394932 : True := trivial
theorem hdT.tw7233317754108828066 : True := trivial
theorem hdT.tw11417774720625015196 : True := trivial
theorem hdT.tw17904838590246713782 : True := trivial
theorem hdT.tw938805452192909420 : True := trivial
theorem hdT.tw14307607968528104836 : True := trivial
theorem hdT.tw6955748858972044763 : True := trivial
theorem hdT.tw13699077669522104644 : True := trivial
theorem hdT.tw5308047800252340219 : True := trivial
theorem hdT.tw942264188830469661 : True := trivial
theorem hdT.tw18250224025411190348 : True := trivial
theorem hdT.tw9552418135779484783 : True := trivial
theorem hdT.tw9449784247559233269 : True := trivial
theorem hdT.tw2097802629581862470 : True := trivial
theorem hdT.tw694286398165433675 : True := trivial
theorem hdT.tw16808101064571166239 : True := trivial
theorem hdT.tw1669876337670000088 : True := trivial
theorem hdT.tw9062863342759334271 : True := trivial
theorem hdT.tw13572087799763237570 : True := trivial
theorem hdT.tw14682451217626634541 : True := trivial
theorem hdT.tw10896545354540480261 : True := trivial
theorem hdT.tw5495102863194933002 : True := trivial
theorem hdT.tw18100569989897730878 : True := trivial
theorem hdT.tw10107192914230221782 : True := trivial
theorem hdT.tw17873790006769355236 : True := trivial
theorem hdT.tw6517722867670072411 : True := trivial
theorem hdT.tw12798658024124653879 : True := trivial
theorem hdT.tw2959051711841503385 : True := trivial
theorem hdT.tw17412967051597721154 : True := trivial
theorem hdT.tw3019476929755150004 : True := trivial
theorem hdT.tw18310924211212023898 : True := trivial
theorem hdT.tw18065828404810378480 : True := trivial
theorem hdT.tw8937378945868886277 : True := trivial
theorem hdT.tw16489284681867142615 : True := trivial
theorem hdT.tw16716546644139784768 : True := trivial
theorem hdT.tw15503024994843384373 : True := trivial
theorem hdT.tw4067763873343585100 : True := trivial
theorem hdT.tw1491336424311045069 : True := trivial
theorem hdT.tw10550274581034694307 : True := trivial
theorem hdT.tw17667750884664719610 : True := trivial
theorem hdT.tw9835184126452975737 : True := trivial
theorem hdT.tw355996382856560000 : True := trivial
theorem hdT.tw13298019607888386524 : True := trivial
theorem hdT.tw7883079585110007852 : True := trivial
theorem hdT.tw14384018857657548324 : True := trivial
theorem hdT.tw10173080693487543003 : True := trivial
theorem hdT.tw9546901395519097113 : True := trivial
theorem hdT.tw12537388514157618536 : True := trivial
theorem hdT.tw8705084889997695571 : True := trivial
theorem hdT.tw11735543557094715807 : True := trivial
theorem hdT.tw13241577492736952202 : True := trivial
theorem hdT.tw7602118869653872696 : True := trivial
theorem hdT.tw16266944597439045703 : True := trivial
theorem hdT.tw6418923982407956075 : True := trivial
theorem hdT.tw2220494192077914082 : True := trivial
theorem hdT.tw2421974210947943896 : True := trivial
theorem hdT.tw18168334755178658163 : True := trivial
theorem hdT.tw7873442354669621758 : True := trivial
theorem hdT.tw5508525403501505706 : True := trivial
theorem hdT.tw11679227984046665637 : True := trivial
theorem hdT.tw17684493538786419990 : True := trivial
theorem hdT.tw13792579449305503841 : True := trivial
theorem hdT.tw13139216254927382609 : True := trivial
theorem hdT.tw1965936428634566924 : True := trivial
theorem hdT.tw16484381730997062492 : True := trivial
theorem hdT.tw10765721606339117948 : True := trivial
theorem hdT.tw10828302542794364372 : True := trivial
theorem hdT.tw6690937501477351658 : True := trivial
theorem hdT.tw15010457189144340986 : True := trivial
theorem hdT.tw7399340436763251304 : True := trivial
theorem hdT.tw617269760308790182 : True := trivial
theorem hdT.tw15602493589263535361 : True := trivial
theorem hdT.tw13281160262870861691 : True := trivial
theorem hdT.tw7479858460405422710 : True := trivial
theorem hdT.tw18243017937811348529 : True := trivial
theorem hdT.tw8799372203303575795 : True := trivial
theorem hdT.tw5833900824666730855 : True := trivial
theorem hdT.tw11001209747788500658 : True := trivial
theorem hdT.tw15902368515024810717 : True := trivial
theorem hdT.tw16134883265113472841 : True := trivial
theorem hdT.tw9531525317723489367 : True := trivial
theorem hdT.tw3075648315715463794 : True := trivial
theorem hdT.tw13271241176467474704 : True := trivial
theorem hdT.tw17456490922900562567 : True := trivial
theorem hdT.tw8873467754133050205 : True := trivial
theorem hdT.tw17648544097800473485 : True := trivial
theorem hdT.tw4009338424391153071 : True := trivial
theorem hdT.tw476896764602719412 : True := trivial
theorem hdT.tw2630498254398583971 : True := trivial
theorem hdT.tw7807645915252597270 : True := trivial
theorem hdT.tw13645766375491644408 : True := trivial
theorem hdT.tw3148966950799367373 : True := trivial
theorem hdT.tw14214612192625897248 : True := trivial
theorem hdT.tw14020171688309530123 : True := trivial
theorem hdT.tw1910824706026138220 : True := trivial
theorem hdT.tw12279998229694318322 : True := trivial
theorem hdT.tw855168499411000503 : True := trivial
theorem hdT.tw1557172595067183701 : True := trivial
theorem hdT.tw18005596733226295132 : True := trivial
theorem hdT.tw7460648067218526814 : True := trivial
theorem hdT.tw9914334180009780790 : True := trivial
theorem hdT.tw17732004547103332221 : True := trivial
theorem hdT.tw5108028236548922365 : True := trivial
theorem hdT.tw14745525095119045682 : True := trivial
theorem hdT.tw15104707605424631900 : True := trivial
theorem hdT.tw14786365380234952175 : True := trivial
theorem hdT.tw7821551477653345829 : True := trivial
theorem hdT.tw9916604431284380257 : True := trivial
theorem hdT.tw1710166738094517644 : True := trivial
theorem hdT.tw3380935380687781973 : True := trivial
theorem hdT.tw8247059957850423332 : True := trivial
theorem hdT.tw15986589184504527592 : True := trivial
theorem hdT.tw15219313058300944985 : True := trivial
theorem hdT.tw7392679170230557871 : True := trivial
theorem hdT.tw11447941907663803046 : True := trivial
theorem hdT.tw12817492696408795699 : True := trivial
theorem hdT.tw12259539577975103698 : True := trivial
theorem hdT.tw17988498918168435268 : True := trivial
theorem hdT.tw5476256833781881076 : True := trivial
theorem hdT.tw1959391839168329765 : True := trivial
theorem hdT.tw1892497086594246384 : True := trivial
theorem hdT.tw3680329325441293862 : True := trivial
theorem hdT.tw8670771243778806885 : True := trivial
theorem hdT.tw1543731155930569881 : True := trivial
theorem hdT.tw12079561201602305451 : True := trivial
theorem hdT.tw4012522088078816110 : True := trivial
theorem hdT.tw13847432502941933032 : True := trivial
theorem hdT.tw11651941772573755169 : True := trivial
theorem hdT.tw13102114777984284480 : True := trivial
theorem hdT.tw2042762938286467980 : True := trivial
theorem hdT.tw11427050489749338305 : True := trivial
theorem hdT.tw12807591335219599141 : True := trivial
theorem hdT.tw7947338347599594513 : True := trivial
theorem hdT.tw10013386480901586327 : True := trivial
theorem hdT.tw17110205108780911252 : True := trivial
theorem hdT.tw4487434557544995915 : True := trivial
theorem hdT.tw7686422701275456138 : True := trivial
theorem hdT.tw6124941601319975727 : True := trivial
theorem hdT.tw7682230036034792189 : True := trivial
theorem hdT.tw16437018426189647447 : True := trivial
theorem hdT.tw17615970304678335875 : True := trivial
theorem hdT.tw3900541090566538375 : True := trivial
theorem hdT.tw12320029094706313238 : True := trivial
theorem hdT.tw10585602135961546881 : True := trivial
theorem hdT.tw5929152466802282115 : True := trivial
theorem hdT.tw1760258660891434357 : True := trivial
theorem hdT.tw7977824130624017432 : True := trivial
theorem hdT.tw1410652289430288153 : True := trivial
theorem hdT.tw8180932146574719607 : True := trivial
theorem hdT.tw2658370714684252078 : True := trivial
theorem hdT.tw13410742300778622958 : True := trivial
theorem hdT.tw13745481164612088859 : True := trivial
theorem hdT.tw776734900397645373 : True := trivial
theorem hdT.tw2274366630676871501 : True := trivial
theorem hdT.tw14823433085943519800 : True := trivial
theorem hdT.tw5739260062304549745 : True := trivial
theorem hdT.tw3412653575038442805 : True := trivial
theorem hdT.tw14037322563818130281 : True := trivial
theorem hdT.tw13338845783058869467 : True := trivial
theorem hdT.tw4799336707676368658 : True := trivial
theorem hdT.tw18425225725321503756 : True := trivial
theorem hdT.tw4420862922631421675 : True := trivial
theorem hdT.tw4207504019746229419 : True := trivial
theorem hdT.tw17782419194950345232 : True := trivial
theorem hdT.tw4802648587422312854 : True := trivial
theorem hdT.tw5308408606060209583 : True := trivial
theorem hdT.tw11458501801640361781 : True := trivial
theorem hdT.tw2524514887380091968 : True := trivial
theorem hdT.tw7634598030205468963 : True := trivial
theorem hdT.tw7244425234100503926 : True := trivial
theorem hdT.tw15604690081134836391 : True := trivial
theorem hdT.tw9470199025548531795 : True := trivial
theorem hdT.tw13289503774068558980 : True := trivial
theorem hdT.tw1580787227658663736 : True := trivial
theorem hdT.tw14374489479828959890 : True := trivial
theorem hdT.tw4383407420157449125 : True := trivial
theorem hdT.tw17127716466403307401 : True := trivial
theorem hdT.tw14535055646236278548 : True := trivial
theorem hdT.tw11473714755269862020 : True := trivial
theorem hdT.tw15578045932945952825 : True := trivial
theorem hdT.tw7750870508779351027 : True := trivial
theorem hdT.tw12544253977147454324 : True := trivial
theorem hdT.tw5481060920723979279 : True := trivial
theorem hdT.tw15478290568897951882 : True := trivial
theorem hdT.tw2485307429580185532 : True := trivial
theorem hdT.tw14972248735013912518 : True := trivial
theorem hdT.tw6386459227717437213 : True := trivial
theorem hdT.tw279229455494635177 : True := trivial
theorem hdT.tw6599119529455057934 : True := trivial
theorem hdT.tw17204517880365750426 : True := trivial
theorem hdT.tw12981684361872513027 : True := trivial
theorem hdT.tw7404225678548197383 : True := trivial
theorem hdT.tw10428136857845229736 : True := trivial
theorem hdT.tw16364119444717739325 : True := trivial
theorem hdT.tw2099304469547774156 : True := trivial
theorem hdT.tw5125506291584634550 : True := trivial
theorem hdT.tw16004732814133205632 : True := trivial
theorem hdT.tw15460788182947458201 : True := trivial
theorem hdT.tw6425414900942841285 : True := trivial
theorem hdT.tw4817551288996843878 : True := trivial
theorem hdT.tw11372798963237433469 : True := trivial
theorem hdT.tw12387774662352885974 : True := trivial
theorem hdT.tw3175499789867179999 : True := trivial
theorem hdT.tw12563112198918280810 : True := trivial
theorem hdT.tw16935250843714126409 : True := trivial
theorem hdT.tw8766941176648348281 : True := trivial
theorem hdT.tw1001932927927829641 : True := trivial
theorem hdT.tw6016340665346597148 : True := trivial
theorem hdT.tw18333366369153593237 : True := trivial
theorem hdT.tw7370714080064044178 : True := trivial
theorem hdT.tw14855939166130383842 : True := trivial
theorem hdT.tw10158975050279796663 : True := trivial
theorem hdT.tw4847161687196603734 : True := trivial
theorem hdT.tw10673186237915159280 : True := trivial
theorem hdT.tw308856326611634325 : True := trivial
theorem hdT.tw1905248120322339897 : True := trivial
theorem hdT.tw10831409624700874709 : True := trivial
theorem hdT.tw14184987369404498229 : True := trivial
theorem hdT.tw5657525579230229757 : True := trivial
theorem hdT.tw16411160818834565329 : True := trivial
theorem hdT.tw9462015229429695695 : True := trivial
theorem hdT.tw9761581780216786772 : True := trivial
theorem hdT.tw15260663562296954404 : True := trivial
theorem hdT.tw7963365950823558655 : True := trivial
theorem hdT.tw12823683342366667648 : True := trivial
theorem hdT.tw12153659471345884365 : True := trivial
theorem hdT.tw10036917896950967397 : True := trivial
theorem hdT.tw14464295826435592742 : True := trivial
theorem hdT.tw8323997472977622740 : True := trivial
theorem hdT.tw10010845322139352627 : True := trivial
theorem hdT.tw17510572939308434107 : True := trivial
theorem hdT.tw2159627914686711884 : True := trivial
theorem hdT.tw3184971922573424567 : True := trivial
theorem hdT.tw11911279253351009771 : True := trivial
theorem hdT.tw4306714477624967827 : True := trivial
theorem hdT.tw9482754983719870782 : True := trivial
theorem hdT.tw10166195152394021702 : True := trivial
theorem hdT.tw6136093587156985215 : True := trivial
theorem hdT.tw1268191746442894382 : True := trivial
theorem hdT.tw12784360240843720142 : True := trivial
theorem hdT.tw16127987048224973706 : True := trivial
theorem hdT.tw12848851418496564332 : True := trivial
theorem hdT.tw7867692867405754409 : True := trivial
theorem hdT.tw17323566721633243856 : True := trivial
theorem hdT.tw13774592499294158505 : True := trivial
theorem hdT.tw6215711625029554326 : True := trivial
theorem hdT.tw1994805565058289416 : True := trivial
theorem hdT.tw16681182357726690485 : True := trivial
theorem hdT.tw1759045066290804585 : True := trivial
theorem hdT.tw16342384386772038482 : True := trivial
theorem hdT.tw1222055354434054917 : True := trivial
theorem hdT.tw5340122980169538509 : True := trivial
theorem hdT.tw1430864054731318241 : True := trivial
theorem hdT.tw11286671869160983514 : True := trivial
theorem hdT.tw13329559452079177445 : True := trivial
theorem hdT.tw5635830972104161746 : True := trivial
theorem hdT.tw1145438229332021567 : True := trivial
theorem hdT.tw11613489809167172214 : True := trivial
theorem hdT.tw11725341453786465626 : True := trivial
theorem hdT.tw18286433055220932116 : True := trivial
theorem hdT.tw9044453912763272853 : True := trivial
theorem hdT.tw12476784377090588212 : True := trivial
theorem hdT.tw16108318809565218085 : True := trivial
theorem hdT.tw2027763147986355455 : True := trivial
theorem hdT.tw11372179145829416100 : True := trivial
theorem hdT.tw7646838358682628758 : True := trivial
theorem hdT.tw16555634406735417611 : True := trivial
theorem hdT.tw18431168122545246677 : True := trivial
theorem hdT.tw8065493402013126719 : True := trivial
theorem hdT.tw5409097454765578910 : True := trivial
theorem hdT.tw10176395992278642552 : True := trivial
theorem hdT.tw10783158620024282116 : True := trivial
theorem hdT.tw5372194639915530387 : True := trivial
theorem hdT.tw7383460302375847559 : True := trivial
theorem hdT.tw4527832340654653562 : True := trivial
theorem hdT.tw1743478796703445569 : True := trivial
theorem hdT.tw26877405466343447 : True := trivial
theorem hdT.tw3449583090305851718 : True := trivial
theorem hdT.tw8072592181832140243 : True := trivial
theorem hdT.tw15476605425147884619 : True := trivial
theorem hdT.tw3303203929878661176 : True := trivial
theorem hdT.tw5691128966781905093 : True := trivial
theorem hdT.tw3475902865807220180 : True := trivial
theorem hdT.tw4352255592901248581 : True := trivial
theorem hdT.tw10323790414895024552 : True := trivial
theorem hdT.tw7125072713232967047 : True := trivial
theorem hdT.tw14745823959645915224 : True := trivial
theorem hdT.tw2727673047806841075 : True := trivial
theorem hdT.tw17370461868930270551 : True := trivial
theorem hdT.tw9354767856310666376 : True := trivial
theorem hdT.tw17278014667150443254 : True := trivial
theorem hdT.tw14944978558954497050 : True := trivial
theorem hdT.tw6739956485725728979 : True := trivial
theorem hdT.tw15315164012237419737 : True := trivial
theorem hdT.tw6134002508673835281 : True := trivial
theorem hdT.tw15167757616076435489 : True := trivial
theorem hdT.tw16169267508442259383 : True := trivial
theorem hdT.tw4390709760044529272 : True := trivial
theorem hdT.tw2951386002248001958 : True := trivial
theorem hdT.tw17212982446460151239 : True := trivial
theorem hdT.tw9351873909626609782 : True := trivial
theorem hdT.tw17970514170925579675 : True := trivial
theorem hdT.tw12138919837800323440 : True := trivial
theorem hdT.tw16531870463292877737 : True := trivial
theorem hdT.tw6110318783425859748 : True := trivial
theorem hdT.tw15617995345080321057 : True := trivial
theorem hdT.tw17888196217835294753 : True := trivial
theorem hdT.tw9063316141770240257 : True := trivial
theorem hdT.tw6389871804011585230 : True := trivial
theorem hdT.tw6958645189134850556 : True := trivial
theorem hdT.tw8623564961340791734 : True := trivial
theorem hdT.tw17419156074687965551 : True := trivial
theorem hdT.tw8325075666436198417 : True := trivial
theorem hdT.tw18221496740607612500 : True := trivial
theorem hdT.tw11451376982793705234 : True := trivial
theorem hdT.tw8224041156636738495 : True := trivial
theorem hdT.tw15897372841331253298 : True := trivial
theorem hdT.tw6667215365287554490 : True := trivial
theorem hdT.tw7291353366514221010 : True := trivial
theorem hdT.tw5393928187633336410 : True := trivial
theorem hdT.tw15313315209409171270 : True := trivial
theorem hdT.tw12693335245358512814 : True := trivial
theorem hdT.tw13195987100727223770 : True := trivial
theorem hdT.tw6148430398257395394 : True := trivial
theorem hdT.tw6841577446531214128 : True := trivial
theorem hdT.tw10305944480496733701 : True := trivial
theorem hdT.tw7378976414268029503 : True := trivial
theorem hdT.tw11673848817800129705 : True := trivial
theorem hdT.tw11867153735268645938 : True := trivial
theorem hdT.tw12634102005968315378 : True := trivial
theorem hdT.tw13153322381789100428 : True := trivial
theorem hdT.tw11131275715287355575 : True := trivial
theorem hdT.tw3048625272048801309 : True := trivial
theorem hdT.tw8344245260858803287 : True := trivial
theorem hdT.tw4473644792770490912 : True := trivial
theorem hdT.tw16059254498097762931 : True := trivial
theorem hdT.tw14089332154439018241 : True := trivial
theorem hdT.tw7005053513127541163 : True := trivial
theorem hdT.tw16384229708659611427 : True := trivial
theorem hdT.tw7949111435810904832 : True := trivial
theorem hdT.tw12130288347816450477 : True := trivial
theorem hdT.tw13845363747457403913 : True := trivial
theorem hdT.tw1368098252954153590 : True := trivial
theorem hdT.tw1710617942081723068 : True := trivial
theorem hdT.tw1016409337160901120 : True := trivial
theorem hdT.tw2047077231110316048 : True := trivial
theorem hdT.tw17660300241523374330 : True := trivial
theorem hdT.tw98075271140989712 : True := trivial
theorem hdT.tw13661287511392017892 : True := trivial
theorem hdT.tw7266376299009869524 : True := trivial
theorem hdT.tw5422410938814113325 : True := trivial
theorem hdT.tw11905555436331314192 : True := trivial
theorem hdT.tw2520595883203713878 : True := trivial
theorem hdT.tw4438097601052625196 : True := trivial
theorem hdT.tw17407014114709207090 : True := trivial
theorem hdT.tw2150228535269823783 : True := trivial
theorem hdT.tw4105787885487224124 : True := trivial
theorem hdT.tw15513460198188007025 : True := trivial
theorem hdT.tw12890025377783325011 : True := trivial
theorem hdT.tw2330852441649880033 : True := trivial
theorem hdT.tw15316214492922139463 : True := trivial
theorem hdT.tw14313307846348622939 : True := trivial
theorem hdT.tw8782778689837717695 : True := trivial
theorem hdT.tw17460586045901743480 : True := trivial
theorem hdT.tw8651333584288849824 : True := trivial
theorem hdT.tw5165581774834855932 : True := trivial
theorem hdT.tw2013409472790794623 : True := trivial
theorem hdT.tw11242775074389597467 : True := trivial
theorem hdT.tw13205757684204676961 : True := trivial
theorem hdT.tw7284438879532154784 : True := trivial
theorem hdT.tw12783911894862837810 : True := trivial
theorem hdT.tw13786714389439647722 : True := trivial
theorem hdT.tw11317579533362982705 : True := trivial
theorem hdT.tw15176716407839422527 : True := trivial
theorem hdT.tw13876422277575686931 : True := trivial
theorem hdT.tw2735428037448430824 : True := trivial
theorem hdT.tw17804484615444265320 : True := trivial
theorem hdT.tw14609252547235851931 : True := trivial
theorem hdT.tw2026564882714474611 : True := trivial
theorem hdT.tw8629024110906615861 : True := trivial
theorem hdT.tw15437119681586835782 : True := trivial
theorem hdT.tw10067355104075643275 : True := trivial
theorem hdT.tw2132456725083282815 : True := trivial
theorem hdT.tw12332239120535128740 : True := trivial
theorem hdT.tw14749652554219716343 : True := trivial
theorem hdT.tw12119636030794199490 : True := trivial
theorem hdT.tw1568304221977498611 : True := trivial
theorem hdT.tw16619460248487745004 : True := trivial
theorem hdT.tw8165155706404190500 : True := trivial
theorem hdT.tw10751219386899914500 : True := trivial
theorem hdT.tw604805224011796685 : True := trivial
theorem hdT.tw1363381414463380569 : True := trivial
theorem hdT.tw18403864235283672485 : True := trivial
theorem hdT.tw5917294072330248093 : True := trivial
theorem hdT.tw16105270477283430567 : True := trivial
theorem hdT.tw5260378216028650820 : True := trivial
theorem hdT.tw15874489536405178614 : True := trivial
theorem hdT.tw7969243833403816725 : True := trivial
theorem hdT.tw1463137707611815181 : True := trivial
theorem hdT.tw7855729953441644567 : True := trivial
theorem hdT.tw13316687733899125188 : True := trivial
theorem hdT.tw11138982444225711653 : True := trivial
theorem hdT.tw512989020808680059 : True := trivial
theorem hdT.tw10470178637503726571 : True := trivial
theorem hdT.tw14390980076652992266 : True := trivial
theorem hdT.tw12616172019080302470 : True := trivial
theorem hdT.tw6748181097363703541 : True := trivial
theorem hdT.tw11542872704083187369 : True := trivial
theorem hdT.tw6126834691248478450 : True := trivial
theorem hdT.tw16395373911868539363 : True := trivial
theorem hdT.tw11203037126535159687 : True := trivial
theorem hdT.tw4708665651597503004 : True := trivial
theorem hdT.tw4160381695852730747 : True := trivial
theorem hdT.tw12865646669610348388 : True := trivial
theorem hdT.tw7425269273167593800 : True := trivial
theorem hdT.tw13821926834489717879 : True := trivial
theorem hdT.tw3969824237570100776 : True := trivial
theorem hdT.tw5163333308569226706 : True := trivial
theorem hdT.tw5502607343161352764 : True := trivial
theorem hdT.tw6440314041947940337 : True := trivial
theorem hdT.tw1559350885289867682 : True := trivial
theorem hdT.tw15245239720828614882 : True := trivial
theorem hdT.tw9380053455917048403 : True := trivial
theorem hdT.tw3340316414879853702 : True := trivial
theorem hdT.tw9988109110853653462 : True := trivial
theorem hdT.tw9825558807504843591 : True := trivial
theorem hdT.tw10281885422764332917 : True := trivial
theorem hdT.tw18370234245966467076 : True := trivial
theorem hdT.tw17559045337990243446 : True := trivial
theorem hdT.tw2436422211977766078 : True := trivial
theorem hdT.tw3569573548083652402 : True := trivial
theorem hdT.tw10720632112344864704 : True := trivial
theorem hdT.tw10868594059437301352 : True := trivial
theorem hdT.tw10413290030777078302 : True := trivial
theorem hdT.tw9095357839185793764 : True := trivial
theorem hdT.tw6033919521562791155 : True := trivial
theorem hdT.tw2307090439938425327 : True := trivial
theorem hdT.tw1678003217307428568 : True := trivial
theorem hdT.tw1704360944293837785 : True := trivial
theorem hdT.tw6428836445399620781 : True := trivial
theorem hdT.tw9100184902824156547 : True := trivial
theorem hdT.tw2889680059912507512 : True := trivial
theorem hdT.tw11018788065075084025 : True := trivial
theorem hdT.tw10419726682591262557 : True := trivial
theorem hdT.tw1075420501288489189 : True := trivial
theorem hdT.tw14145074365520202611 : True := trivial
theorem hdT.tw2558058234243932644 : True := trivial
theorem hdT.tw14420782012553526155 : True := trivial
theorem hdT.tw1520117329010893095 : True := trivial
theorem hdT.tw10416573752156224445 : True := trivial
theorem hdT.tw15655565524205209929 : True := trivial
theorem hdT.tw15894074919283784595 : True := trivial
theorem hdT.tw2921489290202636354 : True := trivial
theorem hdT.tw3937244442570227343 : True := trivial
theorem hdT.tw1884157002324279276 : True := trivial
theorem hdT.tw1217745672201319790 : True := trivial
theorem hdT.tw4972180885488222584 : True := trivial
theorem hdT.tw5396451591722742697 : True := trivial
theorem hdT.tw7721356612524269503 : True := trivial
theorem hdT.tw11687710423419705005 : True := trivial
theorem hdT.tw6408363902074713917 : True := trivial
theorem hdT.tw708045295726102117 : True := trivial
theorem hdT.tw13511928953172602288 : True := trivial
theorem hdT.tw2591819956746355244 : True := trivial
theorem hdT.tw11199705531422776145 : True := trivial
theorem hdT.tw12248449101503654515 : True := trivial
theorem hdT.tw14550229436542405152 : True := trivial
theorem hdT.tw14455323752813661217 : True := trivial
theorem hdT.tw5715541218033375376 : True := trivial
theorem hdT.tw16660877896988103928 : True := trivial
theorem hdT.tw18442825069767663626 : True := trivial
theorem hdT.tw8001199741054128350 : True := trivial
theorem hdT.tw614904304593535612 : True := trivial
theorem hdT.tw16659000165413568518 : True := trivial
theorem hdT.tw16539148576436122313 : True := trivial
theorem hdT.tw2578351281817413193 : True := trivial
theorem hdT.tw15183152111839727540 : True := trivial
theorem hdT.tw17156949415198633774 : True := trivial
theorem hdT.tw5989770250344729309 : True := trivial
theorem hdT.tw16358887474051182817 : True := trivial
theorem hdT.tw1745254952650340349 : True := trivial
theorem hdT.tw1189852723036036748 : True := trivial
theorem hdT.tw1769862425480128937 : True := trivial
theorem hdT.tw2892478627062077807 : True := trivial
theorem hdT.tw9736829806540214903 : True := trivial
theorem hdT.tw7407133789760533946 : True := trivial
theorem hdT.tw6005223870892913473 : True := trivial
theorem hdT.tw1837387332829055383 : True := trivial
theorem hdT.tw5949514706259786298 : True := trivial
theorem hdT.tw7693063965818392853 : True := trivial
theorem hdT.tw14889336212933601618 : True := trivial
theorem hdT.tw4826709780904878789 : True := trivial
theorem hdT.tw642275300502230619 : True := trivial
theorem hdT.tw15056242554879593273 : True := trivial
theorem hdT.tw2183507218278447879 : True := trivial
theorem hdT.tw13135032373196411520 : True := trivial
theorem hdT.tw3470672704688877459 : True := trivial
theorem hdT.tw7301469608296865557 : True := trivial
theorem hdT.tw2945994186440228285 : True := trivial
local macro_rules | `(tactic| o_head ($_ $_ $as $e)) => `(tactic| o_head (Mine.pHook Mine.fr.heap_1_1 $as (fun _ => by kernel_rfl) (by kernel_rfl) : Hook))
set_option Elab.async true in
theorem hdT : PySem.Challenge.rw_on0075_01.Holds := (by
  w_on; o_law; k_head
  (case hw => w_witness2)
  k_fill
  intro w s₀ s₁ mg mb G Y fa o pm cd doc dV kV ho hd hcd hD hmg hg args vals as hpre hlay hrd hwl hlo
  have KX := Mine.pIn_of Y
  k_behind G ho hd hcd hD hmg hpre hlay hrd hwl hlo cd
  all_goals (have KX' : (Mine.fr.heap_1_1 _).In _ := (by assumption))
  have _h : PySem.Challenge.rw_on0075_01 = PySem.Challenge.rw_on0075_01 ∧ Mine.fr.heap_1_1 = Mine.fr.heap_1_1 := by (k_fill; exact ⟨rfl, rfl⟩)
  clear _h
  all_goals (try ((fail_if_success (fail_if_success k_fold)); (with_reducible refine Mine.wp_fold ?_); intro zqq zqe))
  repeat' ((fail_if_success (with_reducible show wpAny _ _ (call (Value.ref (1020 : Nat)) _) _ _ _)); (fail_if_success (with_reducible show wpAny _ _ (call (Value.ref (1037 : Nat)) _) _ _ _)); (fail_if_success (with_reducible show wpAny _ _ (call (Value.ref (1032 : Nat)) _) _ _ _)); (fail_if_success (with_reducible show wpAny _ _ (call (Value.ref (1056 : Nat)) _) _ _ _)); (fail_if_success (with_reducible show wpAny _ _ (call (Value.ref (1063 : Nat)) _) _ _ _)); (fail_if_success (with_reducible show wpAny _ _ (call (Value.ref (1068 : Nat)) _) _ _ _)); (fail_if_success (with_reducible show wpAny _ _ (pyIter (Value.ref _)) (fun it s₂ => LoopAtV _ _ _ _ _ _ _ _ _ it s₂) _ _)); ((first | ((fail_if_success (fail_if_success k_unfold)); (first | (with_reducible refine (?_ : wpAny _ _ _ _ _ _)) | (k_unfold; (try dsimp only)))) | ((fail_if_success (fail_if_success k_fold)); (first | (goal_has PySem.exec; (fail_if_success (fail_if_success (with_reducible show wpAny _ _ (exec _ _) _ _ _)))) | (goal_has PySem.Expr.BoolOp; (fail_if_success (fail_if_success (with_reducible show wpAny _ _ (eval (PySem.Expr.BoolOp _ _ _) _) _ _ _)))) | (goal_has PySem.Expr.Call; (fail_if_success (fail_if_success (with_reducible show wpAny _ _ (eval (PySem.Expr.Call _ _ _ _) _) _ _ _)))) | (goal_has PySem.Expr.Compare; (fail_if_success (fail_if_success (with_reducible show wpAny _ _ (eval (PySem.Expr.Compare _ _ _ _) _) _ _ _))))); (with_reducible refine Mine.wp_fold ?_); intro zqq zqe) | (goal_has PySem.Shared.mk; (with_reducible refine Mine.st_let ?_); intro zqs; goal_lacks PySem.Shared.mk) | ((ctx_mentions ite List.lookup); (rename Fr _ _ _ _ => zqF9); revert zqF9; (goal_has ite List.lookup); (with_reducible refine Mine.fr_let ?_); intro zqm; goal_lacks ite List.lookup; intro zqF) | ((ctx_mentions List.cons HAppend.hAppend List.append); (rename News _ _ _ _ => zqN9); (fail_if_success (fail_if_success (conv at zqN9 => arg 4; arg 2))); (with_reducible refine Mine.news_let zqN9 ?_); intro zql zqN; clear zqN9) | (k_end; wrow_close) | (goal_has PySem.Stmt.For; ((fail_if_success (fail_if_success (with_reducible show wpAny _ _ (exec (PySem.Stmt.For (PySem.Expr.Name _ _) (PySem.Expr.Name _ _) (_ :: _) [] _) _) _ _ _))); (rename Fr _ _ _ _ => lF'); (with_unfolding_all refine' For_invVF lF' (by exact rfl) (by exact rfl) ?_; k_whole))) | (goal_has PySem.Value.builtin; first | ((fail_if_success (fail_if_success (with_reducible show wpAny _ _ (call (Value.builtin _) [Value.ref _, _]) _ _ _))); k_dflt (refine' append_K (by k_asm) (by k_asm) (by k_upd) ?_ (by ((rw [List.size_toArray, PySem.sizeLine_eq]); omega)); k_whole); intro zqh' zqF' zqN'; (try k_sweep)) | ((fail_if_success (fail_if_success (with_reducible show wpAny _ _ (call (Value.builtin "len") [Value.ref _]) _ _ _))); k_dflt (refine' Mine.len_filter (by assumption) (by assumption) (by first | assumption | omega) ?_; k_whole)) | ((fail_if_success (fail_if_success (with_reducible show wpAny _ _ (call (Value.builtin "sorted") [Value.ref _]) _ _ _))); k_dflt (refine' Mine.sorted_nil (by exact rfl) (by k_asm) (by k_asm) (by k_mem) (by k_asm) (by k_asm) ?_); intro zqD' zqn' zqh' zqtk' zqF' zqN' zql1; (try k_lt zql1); (try k_sweep)) | ((fail_if_success (fail_if_success (with_reducible show wpAny _ _ (call (Value.builtin "len") [Value.ref _]) _ _ _))); k_dflt (refine' kst_len (by k_asm) (by k_mem) (by exact IntsAre.length (by assumption)) (by omega) ?_; k_whole)) | ((fail_if_success (fail_if_success (with_reducible show wpAny _ _ (call (Value.builtin _) [Value.ref _, Value.int _ _]) _ _ _))); k_dflt (refine' Mine.pop0 (by k_asm) (by k_asm) (by k_upd) (by ((simp only [List.length_cons, sizeLine_eq]); omega)) ?_; k_whole); intro zqh' zqF' zqN'; (try k_sweep))) | (goal_has subscriptTail; first | ((fail_if_success (fail_if_success (with_reducible show wpAny _ _ (subscriptTail _ _ (Value.ref _) (Value.int _ _)) _ _ _))); k_dflt (refine' Mine.item_ints (by k_asm) (by k_mem) (by assumption) (by omega) (by omega) (by omega) ?_); intro zqx' zqt' zqhx') | ((fail_if_success (fail_if_success (with_reducible show wpAny _ _ (subscriptTail _ (PySem.Expr.Slice _ _ none _) (Value.ref _) (Value.ref _)) _ _ _))); k_dflt (refine' Mine.cut_slice (by k_asm) (by k_asm) (by k_mem) (by exact IsPart.int _ _) (by exact IsPart.int _ _) (by first | decide | omega) (by first | decide | omega) (by assumption) (by first | assumption | exact rfl) (by omega) ?_ (by with_unfolding_all rfl) (by kmk_pure)); intro zqD' zqh' zqws' zqzs' zqhzs' zqhzl' zqhzi' zqF' zqN' zql1; (try k_lt zql1); (try k_sweep))) | (goal_has binaryOp; first | ((fail_if_success (fail_if_success (with_reducible show wpAny _ _ (binaryOp Operator.Mult (Value.ref _) (Value.int _ _)) _ _ _))); k_dflt (refine' Mine.rep_list (by k_asm) (by k_asm) (by k_mem) (by first | decide | omega) (by first | decide | omega) ?_); intro zqD' zqh' zqws' zqzs' zqhzs' zqhzl' zqhzi' zqF' zqN' zql1; (try k_lt zql1); (try k_sweep)) | ((fail_if_success (fail_if_success (with_reducible show wpAny _ _ (binaryOp Operator.FloorDiv (Value.int _ _) (Value.int _ _)) _ _ _))); refine floordiv_int (by omega) ?_ (Or.inl (PyProof.noPylong_small (by omega))))) | (goal_has setItem; ((fail_if_success (fail_if_success (with_reducible show wpAny _ _ (setItem (Value.ref _) (Value.ref _) (Value.ref _)) _ _ _))); k_dflt (refine' Mine.set_slice_ints (by k_asm) (by k_asm) (by exact IsPart.int _ _) (by exact IsPart.int _ _) (by (intro zqo'; k_upd)) (by k_mem) (by first | decide | omega) (by first | decide | omega) (by k_ne) (by assumption) (by first | assumption | exact IntsAre.nil) (by first | assumption | exact rfl) (by first | assumption | exact rfl) (by omega) ?_); intro zqh' zqws' zqzs' zqn' zqhzs' zqhzl' zqhzi' zqF' zqN'; (try dsimp only at zqN'); (try k_sweep))) | (goal_has pyIter; ((fail_if_success (fail_if_success (with_reducible show wpAny _ _ (pyIter (Value.ref _)) (fun it s₂ => LoopAtV _ _ _ _ _ _ _ _ _ it s₂) _ _))); k_dflt (refine' Mine.iter_nil (by exact rfl) (by k_asm) (by k_asm) (by k_mem) ?_); intro zqh' zqtk' zqF' zqN'; (try k_sweep))) | (goal_has call; (fail_if_success (fail_if_success (with_reducible show wpAny _ _ (call (Value.ref _) _ _) _ _ _))); first | (k_dflt (first | (refine' call_cls0 (by k_asm) (by k_asm) (by k_asm) (by k_is) (by k_is) ?_; k_whole; intro zqx zqd zqh zqF zqN zql1 zql2; (try ((have zqU := Mine.lts_up zql1 zql2); (dsimp +zetaDelta only [List.map] at zqU))); (try k_lt zql1); (try k_lt2 zql2); (try k_sweep)) | ((first | (refine' call_cls (by k_asm) (by k_asm) (by k_asm) (by k_is) (by k_is) (by k_is) ?_; k_whole; intro zqx zqd zqh zqF zqN zql1 zql2; (try ((have zqU := Mine.lts_up zql1 zql2); (dsimp +zetaDelta only [List.map] at zqU))); (try k_lt zql1); (try k_lt2 zql2); (try k_sweep)) | (refine' Mine.call_fn (by k_asm) (by k_is) ?_; k_whole) | (refine' call_meth (by k_asm) (by k_mem) ?_; k_whole) | refine wpAny_call ?_); (first | (refine' code_defL (by exact rfl) (by exact rfl) (by first | exact rfl | assumption) (by k_asm) (by k_asm) (by k_asm) (by k_asm) (by k_asm) (by k_is) (by k_is) (by decide) (by ktr_room) (by first | exact BindsTo.of_eq rfl | exact binds_K (by k_in) rfl (by k_is) rfl rfl rfl) (by exact locs rfl) (by exact rfl) (by exact rfl) (by exact rfl) ?_; k_whole; intro zqg zqL zqh zqtk zqFG zqF zqN zqB zqX zqT zqe zqA; (try k_lift zqB); (try ((fail_if_success (fail_if_success k_fold)); (with_reducible refine Mine.wp_fold ?_); intro zqq zqe))) | (refine' code_defCL (by exact rfl) (by exact rfl) (by exact rfl) (by k_asm) (by k_asm) (by k_asm) (by k_asm) (by k_asm) (by k_is) (by k_is) (by ktr_room) (by first | exact BindsTo.of_eq rfl | exact binds_K (by k_in) rfl (by k_is) rfl rfl rfl) (by exact rfl) (by decide +kernel) (by exact rfl) (by exact rfl) (by exact rfl) ?_; k_whole; intro zqg zqL zqh zqtk zqcells zqFG zqF zqN zqY zqB zqX zqT zql1 zqe zqA; (try k_lt zql1); k_cells zqY; (try simp only [List.cons_append, List.nil_append] at zqN); (try dsimp only); (try k_lift zqB); (try ((fail_if_success (fail_if_success k_fold)); (with_reducible refine Mine.wp_fold ?_); intro zqq zqe)))))))) | walk1 | (dsimp only; walk1) | ((with_reducible show wpAny _ _ _ _ _ _); dsimp only) | (leave1; walk_say "STEP leave1"; (first | (with_reducible refine (?_ : wpAny _ _ _ _ _ _)) | try dsimp only)))))
  k_dflt (refine' Mine.deck_core ?qak1 ?qak2 ?qak3 ?qak4 ?qak5 ?qahs ?qahi ?qahl ?qakd ?qaku ?_; (case qak1 => k_asm); (case qak2 => k_asm); (case qak3 => k_asm); (case qak4 => k_asm); (case qak5 => k_asm); (case qahs => assumption); (case qahi => assumption); (case qahl => omega); (case qakd => ktr_room); (case qaku => ktr_units))
  intro d c S tS tk n nc vs ns h1 tk1 hi hlen hdc _ _ F1 N1
  (try dsimp only); (try ((fail_if_success (fail_if_success k_fold)); (with_reducible refine Mine.wp_fold ?_); intro zqq zqe))
  repeat' ((fail_if_success (with_reducible show wpAny _ _ (call (Value.ref (1020 : Nat)) _) _ _ _)); (fail_if_success (with_reducible show wpAny _ _ (call (Value.ref (1037 : Nat)) _) _ _ _)); (fail_if_success (with_reducible show wpAny _ _ (call (Value.ref (1032 : Nat)) _) _ _ _)); (fail_if_success (with_reducible show wpAny _ _ (call (Value.ref (1056 : Nat)) _) _ _ _)); (fail_if_success (with_reducible show wpAny _ _ (call (Value.ref (1063 : Nat)) _) _ _ _)); (fail_if_success (with_reducible show wpAny _ _ (call (Value.ref (1068 : Nat)) _) _ _ _)); (fail_if_success (with_reducible show wpAny _ _ (pyIter (Value.ref _)) (fun it s₂ => LoopAtV _ _ _ _ _ _ _ _ _ it s₂) _ _)); ((first | ((fail_if_success (fail_if_success k_unfold)); (first | (with_reducible refine (?_ : wpAny _ _ _ _ _ _)) | (k_unfold; (try dsimp only)))) | ((fail_if_success (fail_if_success k_fold)); (first | (goal_has PySem.exec; (fail_if_success (fail_if_success (with_reducible show wpAny _ _ (exec _ _) _ _ _)))) | (goal_has PySem.Expr.BoolOp; (fail_if_success (fail_if_success (with_reducible show wpAny _ _ (eval (PySem.Expr.BoolOp _ _ _) _) _ _ _)))) | (goal_has PySem.Expr.Call; (fail_if_success (fail_if_success (with_reducible show wpAny _ _ (eval (PySem.Expr.Call _ _ _ _) _) _ _ _)))) | (goal_has PySem.Expr.Compare; (fail_if_success (fail_if_success (with_reducible show wpAny _ _ (eval (PySem.Expr.Compare _ _ _ _) _) _ _ _))))); (with_reducible refine Mine.wp_fold ?_); intro zqq zqe) | (goal_has PySem.Shared.mk; (with_reducible refine Mine.st_let ?_); intro zqs; goal_lacks PySem.Shared.mk) | ((ctx_mentions ite List.lookup); (rename Fr _ _ _ _ => zqF9); revert zqF9; (goal_has ite List.lookup); (with_reducible refine Mine.fr_let ?_); intro zqm; goal_lacks ite List.lookup; intro zqF) | ((ctx_mentions List.cons HAppend.hAppend List.append); (rename News _ _ _ _ => zqN9); (fail_if_success (fail_if_success (conv at zqN9 => arg 4; arg 2))); (with_reducible refine Mine.news_let zqN9 ?_); intro zql zqN; clear zqN9) | (k_end; wrow_close) | (goal_has PySem.Stmt.For; ((fail_if_success (fail_if_success (with_reducible show wpAny _ _ (exec (PySem.Stmt.For (PySem.Expr.Name _ _) (PySem.Expr.Name _ _) (_ :: _) [] _) _) _ _ _))); (rename Fr _ _ _ _ => lF'); (with_unfolding_all refine' For_invVF lF' (by exact rfl) (by exact rfl) ?_; k_whole))) | (goal_has PySem.Value.builtin; first | ((fail_if_success (fail_if_success (with_reducible show wpAny _ _ (call (Value.builtin _) [Value.ref _, _]) _ _ _))); k_dflt (refine' append_K (by k_asm) (by k_asm) (by k_upd) ?_ (by ((rw [List.size_toArray, PySem.sizeLine_eq]); omega)); k_whole); intro zqh' zqF' zqN'; (try k_sweep)) | ((fail_if_success (fail_if_success (with_reducible show wpAny _ _ (call (Value.builtin "len") [Value.ref _]) _ _ _))); k_dflt (refine' Mine.len_filter (by assumption) (by assumption) (by first | assumption | omega) ?_; k_whole)) | ((fail_if_success (fail_if_success (with_reducible show wpAny _ _ (call (Value.builtin "sorted") [Value.ref _]) _ _ _))); k_dflt (refine' Mine.sorted_nil (by exact rfl) (by k_asm) (by k_asm) (by k_mem) (by k_asm) (by k_asm) ?_); intro zqD' zqn' zqh' zqtk' zqF' zqN' zql1; (try k_lt zql1); (try k_sweep)) | ((fail_if_success (fail_if_success (with_reducible show wpAny _ _ (call (Value.builtin "len") [Value.ref _]) _ _ _))); k_dflt (refine' kst_len (by k_asm) (by k_mem) (by exact IntsAre.length (by assumption)) (by omega) ?_; k_whole)) | ((fail_if_success (fail_if_success (with_reducible show wpAny _ _ (call (Value.builtin _) [Value.ref _, Value.int _ _]) _ _ _))); k_dflt (refine' Mine.pop0 (by k_asm) (by k_asm) (by k_upd) (by ((simp only [List.length_cons, sizeLine_eq]); omega)) ?_; k_whole); intro zqh' zqF' zqN'; (try k_sweep))) | (goal_has subscriptTail; first | ((fail_if_success (fail_if_success (with_reducible show wpAny _ _ (subscriptTail _ _ (Value.ref _) (Value.int _ _)) _ _ _))); k_dflt (refine' Mine.item_ints (by k_asm) (by k_mem) (by assumption) (by omega) (by omega) (by omega) ?_); intro zqx' zqt' zqhx') | ((fail_if_success (fail_if_success (with_reducible show wpAny _ _ (subscriptTail _ (PySem.Expr.Slice _ _ none _) (Value.ref _) (Value.ref _)) _ _ _))); k_dflt (refine' Mine.cut_slice (by k_asm) (by k_asm) (by k_mem) (by exact IsPart.int _ _) (by exact IsPart.int _ _) (by first | decide | omega) (by first | decide | omega) (by assumption) (by first | assumption | exact rfl) (by omega) ?_ (by with_unfolding_all rfl) (by kmk_pure)); intro zqD' zqh' zqws' zqzs' zqhzs' zqhzl' zqhzi' zqF' zqN' zql1; (try k_lt zql1); (try k_sweep))) | (goal_has binaryOp; first | ((fail_if_success (fail_if_success (with_reducible show wpAny _ _ (binaryOp Operator.Mult (Value.ref _) (Value.int _ _)) _ _ _))); k_dflt (refine' Mine.rep_list (by k_asm) (by k_asm) (by k_mem) (by first | decide | omega) (by first | decide | omega) ?_); intro zqD' zqh' zqws' zqzs' zqhzs' zqhzl' zqhzi' zqF' zqN' zql1; (try k_lt zql1); (try k_sweep)) | ((fail_if_success (fail_if_success (with_reducible show wpAny _ _ (binaryOp Operator.FloorDiv (Value.int _ _) (Value.int _ _)) _ _ _))); refine floordiv_int (by omega) ?_ (Or.inl (PyProof.noPylong_small (by omega))))) | (goal_has setItem; ((fail_if_success (fail_if_success (with_reducible show wpAny _ _ (setItem (Value.ref _) (Value.ref _) (Value.ref _)) _ _ _))); k_dflt (refine' Mine.set_slice_ints (by k_asm) (by k_asm) (by exact IsPart.int _ _) (by exact IsPart.int _ _) (by (intro zqo'; k_upd)) (by k_mem) (by first | decide | omega) (by first | decide | omega) (by k_ne) (by assumption) (by first | assumption | exact IntsAre.nil) (by first | assumption | exact rfl) (by first | assumption | exact rfl) (by omega) ?_); intro zqh' zqws' zqzs' zqn' zqhzs' zqhzl' zqhzi' zqF' zqN'; (try dsimp only at zqN'); (try k_sweep))) | (goal_has pyIter; ((fail_if_success (fail_if_success (with_reducible show wpAny _ _ (pyIter (Value.ref _)) (fun it s₂ => LoopAtV _ _ _ _ _ _ _ _ _ it s₂) _ _))); k_dflt (refine' Mine.iter_nil (by exact rfl) (by k_asm) (by k_asm) (by k_mem) ?_); intro zqh' zqtk' zqF' zqN'; (try k_sweep))) | (goal_has call; (fail_if_success (fail_if_success (with_reducible show wpAny _ _ (call (Value.ref _) _ _) _ _ _))); first | (k_dflt (first | (refine' call_cls0 (by k_asm) (by k_asm) (by k_asm) (by k_is) (by k_is) ?_; k_whole; intro zqx zqd zqh zqF zqN zql1 zql2; (try ((have zqU := Mine.lts_up zql1 zql2); (dsimp +zetaDelta only [List.map] at zqU))); (try k_lt zql1); (try k_lt2 zql2); (try k_sweep)) | ((first | (refine' call_cls (by k_asm) (by k_asm) (by k_asm) (by k_is) (by k_is) (by k_is) ?_; k_whole; intro zqx zqd zqh zqF zqN zql1 zql2; (try ((have zqU := Mine.lts_up zql1 zql2); (dsimp +zetaDelta only [List.map] at zqU))); (try k_lt zql1); (try k_lt2 zql2); (try k_sweep)) | (refine' Mine.call_fn (by k_asm) (by k_is) ?_; k_whole) | (refine' call_meth (by k_asm) (by k_mem) ?_; k_whole) | refine wpAny_call ?_); (first | (refine' code_defL (by exact rfl) (by exact rfl) (by first | exact rfl | assumption) (by k_asm) (by k_asm) (by k_asm) (by k_asm) (by k_asm) (by k_is) (by k_is) (by decide) (by ktr_room) (by first | exact BindsTo.of_eq rfl | exact binds_K (by k_in) rfl (by k_is) rfl rfl rfl) (by exact locs rfl) (by exact rfl) (by exact rfl) (by exact rfl) ?_; k_whole; intro zqg zqL zqh zqtk zqFG zqF zqN zqB zqX zqT zqe zqA; (try k_lift zqB); (try ((fail_if_success (fail_if_success k_fold)); (with_reducible refine Mine.wp_fold ?_); intro zqq zqe))) | (refine' code_defCL (by exact rfl) (by exact rfl) (by exact rfl) (by k_asm) (by k_asm) (by k_asm) (by k_asm) (by k_asm) (by k_is) (by k_is) (by ktr_room) (by first | exact BindsTo.of_eq rfl | exact binds_K (by k_in) rfl (by k_is) rfl rfl rfl) (by exact rfl) (by decide +kernel) (by exact rfl) (by exact rfl) (by exact rfl) ?_; k_whole; intro zqg zqL zqh zqtk zqcells zqFG zqF zqN zqY zqB zqX zqT zql1 zqe zqA; (try k_lt zql1); k_cells zqY; (try simp only [List.cons_append, List.nil_append] at zqN); (try dsimp only); (try k_lift zqB); (try ((fail_if_success (fail_if_success k_fold)); (with_reducible refine Mine.wp_fold ?_); intro zqq zqe)))))))) | walk1 | (dsimp only; walk1) | ((with_reducible show wpAny _ _ _ _ _ _); dsimp only) | (leave1; walk_say "STEP leave1"; (first | (with_reducible refine (?_ : wpAny _ _ _ _ _ _)) | try dsimp only)))))
  k_dflt (refine' Mine.lbuf_core (own := []) ?qbk1 ?qbk2 ?qbk3 ?qbk4 ?qbk5 hi hlen ?qbo1 ?qbo2 hdc ?qbkd ?qbku ?_; (case qbk1 => k_asm); (case qbk2 => k_asm); (case qbk3 => k_asm); (case qbk4 => k_asm); (case qbk5 => k_asm); (case qbo1 => exact List.forall_mem_nil _); (case qbo2 => exact List.forall_mem_nil _); (case qbkd => ktr_room); (case qbku => ktr_units))
  intro tp b bd g gp ce cd T2 nm bv zv gs ge wz wc zz pad z0 nce ncd ntp own h2 tk2 T1 mk li pt tkb ck sv ro vs2 ns2 k2 tk3 n2 nc2 HB hi hlen F2 N2
  have mtp := HB.mtp
  (try dsimp only); (try ((fail_if_success (fail_if_success k_fold)); (with_reducible refine Mine.wp_fold ?_); intro zqq zqe))
  repeat' ((fail_if_success (with_reducible show wpAny _ _ (call (Value.ref (1020 : Nat)) _) _ _ _)); (fail_if_success (with_reducible show wpAny _ _ (call (Value.ref (1037 : Nat)) _) _ _ _)); (fail_if_success (with_reducible show wpAny _ _ (call (Value.ref (1032 : Nat)) _) _ _ _)); (fail_if_success (with_reducible show wpAny _ _ (call (Value.ref (1056 : Nat)) _) _ _ _)); (fail_if_success (with_reducible show wpAny _ _ (call (Value.ref (1063 : Nat)) _) _ _ _)); (fail_if_success (with_reducible show wpAny _ _ (call (Value.ref (1068 : Nat)) _) _ _ _)); (fail_if_success (with_reducible show wpAny _ _ (pyIter (Value.ref _)) (fun it s₂ => LoopAtV _ _ _ _ _ _ _ _ _ it s₂) _ _)); ((first | ((fail_if_success (fail_if_success k_unfold)); (first | (with_reducible refine (?_ : wpAny _ _ _ _ _ _)) | (k_unfold; (try dsimp only)))) | ((fail_if_success (fail_if_success k_fold)); (first | (goal_has PySem.exec; (fail_if_success (fail_if_success (with_reducible show wpAny _ _ (exec _ _) _ _ _)))) | (goal_has PySem.Expr.BoolOp; (fail_if_success (fail_if_success (with_reducible show wpAny _ _ (eval (PySem.Expr.BoolOp _ _ _) _) _ _ _)))) | (goal_has PySem.Expr.Call; (fail_if_success (fail_if_success (with_reducible show wpAny _ _ (eval (PySem.Expr.Call _ _ _ _) _) _ _ _)))) | (goal_has PySem.Expr.Compare; (fail_if_success (fail_if_success (with_reducible show wpAny _ _ (eval (PySem.Expr.Compare _ _ _ _) _) _ _ _))))); (with_reducible refine Mine.wp_fold ?_); intro zqq zqe) | (goal_has PySem.Shared.mk; (with_reducible refine Mine.st_let ?_); intro zqs; goal_lacks PySem.Shared.mk) | ((ctx_mentions ite List.lookup); (rename Fr _ _ _ _ => zqF9); revert zqF9; (goal_has ite List.lookup); (with_reducible refine Mine.fr_let ?_); intro zqm; goal_lacks ite List.lookup; intro zqF) | ((ctx_mentions List.cons HAppend.hAppend List.append); (rename News _ _ _ _ => zqN9); (fail_if_success (fail_if_success (conv at zqN9 => arg 4; arg 2))); (with_reducible refine Mine.news_let zqN9 ?_); intro zql zqN; clear zqN9) | (k_end; wrow_close) | (goal_has PySem.Stmt.For; ((fail_if_success (fail_if_success (with_reducible show wpAny _ _ (exec (PySem.Stmt.For (PySem.Expr.Name _ _) (PySem.Expr.Name _ _) (_ :: _) [] _) _) _ _ _))); (rename Fr _ _ _ _ => lF'); (with_unfolding_all refine' For_invVF lF' (by exact rfl) (by exact rfl) ?_; k_whole))) | (goal_has PySem.Value.builtin; first | ((fail_if_success (fail_if_success (with_reducible show wpAny _ _ (call (Value.builtin _) [Value.ref _, _]) _ _ _))); k_dflt (refine' append_K (by k_asm) (by k_asm) (by k_upd) ?_ (by ((rw [List.size_toArray, PySem.sizeLine_eq]); omega)); k_whole); intro zqh' zqF' zqN'; (try k_sweep)) | ((fail_if_success (fail_if_success (with_reducible show wpAny _ _ (call (Value.builtin "len") [Value.ref _]) _ _ _))); k_dflt (refine' Mine.len_filter (by assumption) (by assumption) (by first | assumption | omega) ?_; k_whole)) | ((fail_if_success (fail_if_success (with_reducible show wpAny _ _ (call (Value.builtin "sorted") [Value.ref _]) _ _ _))); k_dflt (refine' Mine.sorted_nil (by exact rfl) (by k_asm) (by k_asm) (by k_mem) (by k_asm) (by k_asm) ?_); intro zqD' zqn' zqh' zqtk' zqF' zqN' zql1; (try k_lt zql1); (try k_sweep)) | ((fail_if_success (fail_if_success (with_reducible show wpAny _ _ (call (Value.builtin "len") [Value.ref _]) _ _ _))); k_dflt (refine' kst_len (by k_asm) (by k_mem) (by exact IntsAre.length (by assumption)) (by omega) ?_; k_whole)) | ((fail_if_success (fail_if_success (with_reducible show wpAny _ _ (call (Value.builtin _) [Value.ref _, Value.int _ _]) _ _ _))); k_dflt (refine' Mine.pop0 (by k_asm) (by k_asm) (by k_upd) (by ((simp only [List.length_cons, sizeLine_eq]); omega)) ?_; k_whole); intro zqh' zqF' zqN'; (try k_sweep))) | (goal_has subscriptTail; first | ((fail_if_success (fail_if_success (with_reducible show wpAny _ _ (subscriptTail _ _ (Value.ref _) (Value.int _ _)) _ _ _))); k_dflt (refine' Mine.item_ints (by k_asm) (by k_mem) (by assumption) (by omega) (by omega) (by omega) ?_); intro zqx' zqt' zqhx') | ((fail_if_success (fail_if_success (with_reducible show wpAny _ _ (subscriptTail _ (PySem.Expr.Slice _ _ none _) (Value.ref _) (Value.ref _)) _ _ _))); k_dflt (refine' Mine.cut_slice (by k_asm) (by k_asm) (by k_mem) (by exact IsPart.int _ _) (by exact IsPart.int _ _) (by first | decide | omega) (by first | decide | omega) (by assumption) (by first | assumption | exact rfl) (by omega) ?_ (by with_unfolding_all rfl) (by kmk_pure)); intro zqD' zqh' zqws' zqzs' zqhzs' zqhzl' zqhzi' zqF' zqN' zql1; (try k_lt zql1); (try k_sweep))) | (goal_has binaryOp; first | ((fail_if_success (fail_if_success (with_reducible show wpAny _ _ (binaryOp Operator.Mult (Value.ref _) (Value.int _ _)) _ _ _))); k_dflt (refine' Mine.rep_list (by k_asm) (by k_asm) (by k_mem) (by first | decide | omega) (by first | decide | omega) ?_); intro zqD' zqh' zqws' zqzs' zqhzs' zqhzl' zqhzi' zqF' zqN' zql1; (try k_lt zql1); (try k_sweep)) | ((fail_if_success (fail_if_success (with_reducible show wpAny _ _ (binaryOp Operator.FloorDiv (Value.int _ _) (Value.int _ _)) _ _ _))); refine floordiv_int (by omega) ?_ (Or.inl (PyProof.noPylong_small (by omega))))) | (goal_has setItem; ((fail_if_success (fail_if_success (with_reducible show wpAny _ _ (setItem (Value.ref _) (Value.ref _) (Value.ref _)) _ _ _))); k_dflt (refine' Mine.set_slice_ints (by k_asm) (by k_asm) (by exact IsPart.int _ _) (by exact IsPart.int _ _) (by (intro zqo'; k_upd)) (by k_mem) (by first | decide | omega) (by first | decide | omega) (by k_ne) (by assumption) (by first | assumption | exact IntsAre.nil) (by first | assumption | exact rfl) (by first | assumption | exact rfl) (by omega) ?_); intro zqh' zqws' zqzs' zqn' zqhzs' zqhzl' zqhzi' zqF' zqN'; (try dsimp only at zqN'); (try k_sweep))) | (goal_has pyIter; ((fail_if_success (fail_if_success (with_reducible show wpAny _ _ (pyIter (Value.ref _)) (fun it s₂ => LoopAtV _ _ _ _ _ _ _ _ _ it s₂) _ _))); k_dflt (refine' Mine.iter_nil (by exact rfl) (by k_asm) (by k_asm) (by k_mem) ?_); intro zqh' zqtk' zqF' zqN'; (try k_sweep))) | (goal_has call; (fail_if_success (fail_if_success (with_reducible show wpAny _ _ (call (Value.ref _) _ _) _ _ _))); first | (k_dflt (first | (refine' call_cls0 (by k_asm) (by k_asm) (by k_asm) (by k_is) (by k_is) ?_; k_whole; intro zqx zqd zqh zqF zqN zql1 zql2; (try ((have zqU := Mine.lts_up zql1 zql2); (dsimp +zetaDelta only [List.map] at zqU))); (try k_lt zql1); (try k_lt2 zql2); (try k_sweep)) | ((first | (refine' call_cls (by k_asm) (by k_asm) (by k_asm) (by k_is) (by k_is) (by k_is) ?_; k_whole; intro zqx zqd zqh zqF zqN zql1 zql2; (try ((have zqU := Mine.lts_up zql1 zql2); (dsimp +zetaDelta only [List.map] at zqU))); (try k_lt zql1); (try k_lt2 zql2); (try k_sweep)) | (refine' Mine.call_fn (by k_asm) (by k_is) ?_; k_whole) | (refine' call_meth (by k_asm) (by k_mem) ?_; k_whole) | refine wpAny_call ?_); (first | (refine' code_defL (by exact rfl) (by exact rfl) (by first | exact rfl | assumption) (by k_asm) (by k_asm) (by k_asm) (by k_asm) (by k_asm) (by k_is) (by k_is) (by decide) (by ktr_room) (by first | exact BindsTo.of_eq rfl | exact binds_K (by k_in) rfl (by k_is) rfl rfl rfl) (by exact locs rfl) (by exact rfl) (by exact rfl) (by exact rfl) ?_; k_whole; intro zqg zqL zqh zqtk zqFG zqF zqN zqB zqX zqT zqe zqA; (try k_lift zqB); (try ((fail_if_success (fail_if_success k_fold)); (with_reducible refine Mine.wp_fold ?_); intro zqq zqe))) | (refine' code_defCL (by exact rfl) (by exact rfl) (by exact rfl) (by k_asm) (by k_asm) (by k_asm) (by k_asm) (by k_asm) (by k_is) (by k_is) (by ktr_room) (by first | exact BindsTo.of_eq rfl | exact binds_K (by k_in) rfl (by k_is) rfl rfl rfl) (by exact rfl) (by decide +kernel) (by exact rfl) (by exact rfl) (by exact rfl) ?_; k_whole; intro zqg zqL zqh zqtk zqcells zqFG zqF zqN zqY zqB zqX zqT zql1 zqe zqA; (try k_lt zql1); k_cells zqY; (try simp only [List.cons_append, List.nil_append] at zqN); (try dsimp only); (try k_lift zqB); (try ((fail_if_success (fail_if_success k_fold)); (with_reducible refine Mine.wp_fold ?_); intro zqq zqe)))))))) | walk1 | (dsimp only; walk1) | ((with_reducible show wpAny _ _ _ _ _ _); dsimp only) | (leave1; walk_say "STEP leave1"; (first | (with_reducible refine (?_ : wpAny _ _ _ _ _ _)) | try dsimp only)))))
  k_dflt (refine' Mine.many_core ?qck1 ?qck2 ?qck3 ?qck4 ?qck5 ?qchs ?qchi ?qchl ?qckd ?qcku ?_; (case qck1 => k_asm); (case qck2 => k_asm); (case qck3 => k_asm); (case qck4 => k_asm); (case qck5 => k_asm); (case qchs => assumption); (case qchi => assumption); (case qchl => omega); (case qckd => ktr_room); (case qcku => ktr_units))
  intro r tr h3 tk4 hr1 hr2 F3 N3
  have hr3 : r ≤ 60 := by omega
  clear hr2
  (try dsimp only); (try ((fail_if_success (fail_if_success k_fold)); (with_reducible refine Mine.wp_fold ?_); intro zqq zqe))
  repeat' ((fail_if_success (with_reducible show wpAny _ _ (call (Value.ref (1020 : Nat)) _) _ _ _)); (fail_if_success (with_reducible show wpAny _ _ (call (Value.ref (1037 : Nat)) _) _ _ _)); (fail_if_success (with_reducible show wpAny _ _ (call (Value.ref (1032 : Nat)) _) _ _ _)); (fail_if_success (with_reducible show wpAny _ _ (call (Value.ref (1056 : Nat)) _) _ _ _)); (fail_if_success (with_reducible show wpAny _ _ (call (Value.ref (1063 : Nat)) _) _ _ _)); (fail_if_success (with_reducible show wpAny _ _ (call (Value.ref (1068 : Nat)) _) _ _ _)); (fail_if_success (with_reducible show wpAny _ _ (pyIter (Value.ref _)) (fun it s₂ => LoopAtV _ _ _ _ _ _ _ _ _ it s₂) _ _)); ((first | ((fail_if_success (fail_if_success k_unfold)); (first | (with_reducible refine (?_ : wpAny _ _ _ _ _ _)) | (k_unfold; (try dsimp only)))) | ((fail_if_success (fail_if_success k_fold)); (first | (goal_has PySem.exec; (fail_if_success (fail_if_success (with_reducible show wpAny _ _ (exec _ _) _ _ _)))) | (goal_has PySem.Expr.BoolOp; (fail_if_success (fail_if_success (with_reducible show wpAny _ _ (eval (PySem.Expr.BoolOp _ _ _) _) _ _ _)))) | (goal_has PySem.Expr.Call; (fail_if_success (fail_if_success (with_reducible show wpAny _ _ (eval (PySem.Expr.Call _ _ _ _) _) _ _ _)))) | (goal_has PySem.Expr.Compare; (fail_if_success (fail_if_success (with_reducible show wpAny _ _ (eval (PySem.Expr.Compare _ _ _ _) _) _ _ _))))); (with_reducible refine Mine.wp_fold ?_); intro zqq zqe) | (goal_has PySem.Shared.mk; (with_reducible refine Mine.st_let ?_); intro zqs; goal_lacks PySem.Shared.mk) | ((ctx_mentions ite List.lookup); (rename Fr _ _ _ _ => zqF9); revert zqF9; (goal_has ite List.lookup); (with_reducible refine Mine.fr_let ?_); intro zqm; goal_lacks ite List.lookup; intro zqF) | ((ctx_mentions List.cons HAppend.hAppend List.append); (rename News _ _ _ _ => zqN9); (fail_if_success (fail_if_success (conv at zqN9 => arg 4; arg 2))); (with_reducible refine Mine.news_let zqN9 ?_); intro zql zqN; clear zqN9) | (k_end; wrow_close) | (goal_has PySem.Stmt.For; ((fail_if_success (fail_if_success (with_reducible show wpAny _ _ (exec (PySem.Stmt.For (PySem.Expr.Name _ _) (PySem.Expr.Name _ _) (_ :: _) [] _) _) _ _ _))); (rename Fr _ _ _ _ => lF'); (with_unfolding_all refine' For_invVF lF' (by exact rfl) (by exact rfl) ?_; k_whole))) | (goal_has PySem.Value.builtin; first | ((fail_if_success (fail_if_success (with_reducible show wpAny _ _ (call (Value.builtin _) [Value.ref _, _]) _ _ _))); k_dflt (refine' append_K (by k_asm) (by k_asm) (by k_upd) ?_ (by ((rw [List.size_toArray, PySem.sizeLine_eq]); omega)); k_whole); intro zqh' zqF' zqN'; (try k_sweep)) | ((fail_if_success (fail_if_success (with_reducible show wpAny _ _ (call (Value.builtin "len") [Value.ref _]) _ _ _))); k_dflt (refine' Mine.len_filter (by assumption) (by assumption) (by first | assumption | omega) ?_; k_whole)) | ((fail_if_success (fail_if_success (with_reducible show wpAny _ _ (call (Value.builtin "sorted") [Value.ref _]) _ _ _))); k_dflt (refine' Mine.sorted_nil (by exact rfl) (by k_asm) (by k_asm) (by k_mem) (by k_asm) (by k_asm) ?_); intro zqD' zqn' zqh' zqtk' zqF' zqN' zql1; (try k_lt zql1); (try k_sweep)) | ((fail_if_success (fail_if_success (with_reducible show wpAny _ _ (call (Value.builtin "len") [Value.ref _]) _ _ _))); k_dflt (refine' kst_len (by k_asm) (by k_mem) (by exact IntsAre.length (by assumption)) (by omega) ?_; k_whole)) | ((fail_if_success (fail_if_success (with_reducible show wpAny _ _ (call (Value.builtin _) [Value.ref _, Value.int _ _]) _ _ _))); k_dflt (refine' Mine.pop0 (by k_asm) (by k_asm) (by k_upd) (by ((simp only [List.length_cons, sizeLine_eq]); omega)) ?_; k_whole); intro zqh' zqF' zqN'; (try k_sweep))) | (goal_has subscriptTail; first | ((fail_if_success (fail_if_success (with_reducible show wpAny _ _ (subscriptTail _ _ (Value.ref _) (Value.int _ _)) _ _ _))); k_dflt (refine' Mine.item_ints (by k_asm) (by k_mem) (by assumption) (by omega) (by omega) (by omega) ?_); intro zqx' zqt' zqhx') | ((fail_if_success (fail_if_success (with_reducible show wpAny _ _ (subscriptTail _ (PySem.Expr.Slice _ _ none _) (Value.ref _) (Value.ref _)) _ _ _))); k_dflt (refine' Mine.cut_slice (by k_asm) (by k_asm) (by k_mem) (by exact IsPart.int _ _) (by exact IsPart.int _ _) (by first | decide | omega) (by first | decide | omega) (by assumption) (by first | assumption | exact rfl) (by omega) ?_ (by with_unfolding_all rfl) (by kmk_pure)); intro zqD' zqh' zqws' zqzs' zqhzs' zqhzl' zqhzi' zqF' zqN' zql1; (try k_lt zql1); (try k_sweep))) | (goal_has binaryOp; first | ((fail_if_success (fail_if_success (with_reducible show wpAny _ _ (binaryOp Operator.Mult (Value.ref _) (Value.int _ _)) _ _ _))); k_dflt (refine' Mine.rep_list (by k_asm) (by k_asm) (by k_mem) (by first | decide | omega) (by first | decide | omega) ?_); intro zqD' zqh' zqws' zqzs' zqhzs' zqhzl' zqhzi' zqF' zqN' zql1; (try k_lt zql1); (try k_sweep)) | ((fail_if_success (fail_if_success (with_reducible show wpAny _ _ (binaryOp Operator.FloorDiv (Value.int _ _) (Value.int _ _)) _ _ _))); refine floordiv_int (by omega) ?_ (Or.inl (PyProof.noPylong_small (by omega))))) | (goal_has setItem; ((fail_if_success (fail_if_success (with_reducible show wpAny _ _ (setItem (Value.ref _) (Value.ref _) (Value.ref _)) _ _ _))); k_dflt (refine' Mine.set_slice_ints (by k_asm) (by k_asm) (by exact IsPart.int _ _) (by exact IsPart.int _ _) (by (intro zqo'; k_upd)) (by k_mem) (by first | decide | omega) (by first | decide | omega) (by k_ne) (by assumption) (by first | assumption | exact IntsAre.nil) (by first | assumption | exact rfl) (by first | assumption | exact rfl) (by omega) ?_); intro zqh' zqws' zqzs' zqn' zqhzs' zqhzl' zqhzi' zqF' zqN'; (try dsimp only at zqN'); (try k_sweep))) | (goal_has pyIter; ((fail_if_success (fail_if_success (with_reducible show wpAny _ _ (pyIter (Value.ref _)) (fun it s₂ => LoopAtV _ _ _ _ _ _ _ _ _ it s₂) _ _))); k_dflt (refine' Mine.iter_nil (by exact rfl) (by k_asm) (by k_asm) (by k_mem) ?_); intro zqh' zqtk' zqF' zqN'; (try k_sweep))) | (goal_has call; (fail_if_success (fail_if_success (with_reducible show wpAny _ _ (call (Value.ref _) _ _) _ _ _))); first | (k_dflt (first | (refine' call_cls0 (by k_asm) (by k_asm) (by k_asm) (by k_is) (by k_is) ?_; k_whole; intro zqx zqd zqh zqF zqN zql1 zql2; (try ((have zqU := Mine.lts_up zql1 zql2); (dsimp +zetaDelta only [List.map] at zqU))); (try k_lt zql1); (try k_lt2 zql2); (try k_sweep)) | ((first | (refine' call_cls (by k_asm) (by k_asm) (by k_asm) (by k_is) (by k_is) (by k_is) ?_; k_whole; intro zqx zqd zqh zqF zqN zql1 zql2; (try ((have zqU := Mine.lts_up zql1 zql2); (dsimp +zetaDelta only [List.map] at zqU))); (try k_lt zql1); (try k_lt2 zql2); (try k_sweep)) | (refine' Mine.call_fn (by k_asm) (by k_is) ?_; k_whole) | (refine' call_meth (by k_asm) (by k_mem) ?_; k_whole) | refine wpAny_call ?_); (first | (refine' code_defL (by exact rfl) (by exact rfl) (by first | exact rfl | assumption) (by k_asm) (by k_asm) (by k_asm) (by k_asm) (by k_asm) (by k_is) (by k_is) (by decide) (by ktr_room) (by first | exact BindsTo.of_eq rfl | exact binds_K (by k_in) rfl (by k_is) rfl rfl rfl) (by exact locs rfl) (by exact rfl) (by exact rfl) (by exact rfl) ?_; k_whole; intro zqg zqL zqh zqtk zqFG zqF zqN zqB zqX zqT zqe zqA; (try k_lift zqB); (try ((fail_if_success (fail_if_success k_fold)); (with_reducible refine Mine.wp_fold ?_); intro zqq zqe))) | (refine' code_defCL (by exact rfl) (by exact rfl) (by exact rfl) (by k_asm) (by k_asm) (by k_asm) (by k_asm) (by k_asm) (by k_is) (by k_is) (by ktr_room) (by first | exact BindsTo.of_eq rfl | exact binds_K (by k_in) rfl (by k_is) rfl rfl rfl) (by exact rfl) (by decide +kernel) (by exact rfl) (by exact rfl) (by exact rfl) ?_; k_whole; intro zqg zqL zqh zqtk zqcells zqFG zqF zqN zqY zqB zqX zqT zql1 zqe zqA; (try k_lt zql1); k_cells zqY; (try simp only [List.cons_append, List.nil_append] at zqN); (try dsimp only); (try k_lift zqB); (try ((fail_if_success (fail_if_success k_fold)); (with_reducible refine Mine.wp_fold ?_); intro zqq zqe)))))))) | walk1 | (dsimp only; walk1) | ((with_reducible show wpAny _ _ _ _ _ _); dsimp only) | (leave1; walk_say "STEP leave1"; (first | (with_reducible refine (?_ : wpAny _ _ _ _ _ _)) | try dsimp only)))))
  rename Fr _ _ _ _ => F4
  rename News _ _ _ _ => N4
  rename IsRange _ _ _ _ _ _ _ _ => hrg
  refine' range_led (n := r.toNat) (σ := Int × Tok × Nat × List Value × List Int × Nat × (Nat → Tok) × Int)
    (fun q => (d, deckO c S tS q.1 q.2.1 q.2.2.1) :: (c, listOf q.2.2.2.1.toArray q.2.2.2.2.2.1) :: (bd, bufO _ q.2.2.2.2.2.2.1 nm g mk li q.2.2.2.2.2.2.2 bv zv tkb ck sv ro) :: own)
    (fun q => [(Str.ofString "deck", .ref d), (Str.ofString "buffer", .ref b), (Str.ofString "codes", .ref cd)])
    (fun i q => IntsAre q.2.2.2.1 q.2.2.2.2.1 ∧ q.2.2.2.2.1.length ≤ 24) (_, _, _, _, ns2, _, _, _)
    rfl hrg ?qds1 ?qds2 F4 (cb_drop N4 (fun q hq => hq)) (all_cons (fr_at F4 rfl) (all_cons (fr_at F4 rfl) (all_cons (fr_at F4 rfl) all_nil))) ⟨hi, hlen⟩ ?qdturn ?qddone
  case qds1 => exact small_one (by omega) (by omega) (by omega) (by omega)
  case qds2 => exact (rangeSize_nat _ _).trans (by omega)
  case qdturn =>
    intro i q u t I oI h tk hin hj F' N' off
    obtain ⟨k5, tk5, n5, vs5, ns5, nc5, T5, pt5⟩ := q
    obtain ⟨hi5, hlen5⟩ := hj
    dsimp only at hi5 hlen5 F' N' off ⊢
    dsimp +zetaDelta only [envOf] at F' N'
    repeat' ((fail_if_success (with_reducible show wpAny _ _ (call (Value.ref (1020 : Nat)) _) _ _ _)); (fail_if_success (with_reducible show wpAny _ _ (call (Value.ref (1037 : Nat)) _) _ _ _)); (fail_if_success (with_reducible show wpAny _ _ (call (Value.ref (1032 : Nat)) _) _ _ _)); (fail_if_success (with_reducible show wpAny _ _ (call (Value.ref (1056 : Nat)) _) _ _ _)); (fail_if_success (with_reducible show wpAny _ _ (call (Value.ref (1063 : Nat)) _) _ _ _)); (fail_if_success (with_reducible show wpAny _ _ (call (Value.ref (1068 : Nat)) _) _ _ _)); (fail_if_success (with_reducible show wpAny _ _ (pyIter (Value.ref _)) (fun it s₂ => LoopAtV _ _ _ _ _ _ _ _ _ it s₂) _ _)); ((first | ((fail_if_success (fail_if_success k_unfold)); (first | (with_reducible refine (?_ : wpAny _ _ _ _ _ _)) | (k_unfold; (try dsimp only)))) | ((fail_if_success (fail_if_success k_fold)); (first | (goal_has PySem.exec; (fail_if_success (fail_if_success (with_reducible show wpAny _ _ (exec _ _) _ _ _)))) | (goal_has PySem.Expr.BoolOp; (fail_if_success (fail_if_success (with_reducible show wpAny _ _ (eval (PySem.Expr.BoolOp _ _ _) _) _ _ _)))) | (goal_has PySem.Expr.Call; (fail_if_success (fail_if_success (with_reducible show wpAny _ _ (eval (PySem.Expr.Call _ _ _ _) _) _ _ _)))) | (goal_has PySem.Expr.Compare; (fail_if_success (fail_if_success (with_reducible show wpAny _ _ (eval (PySem.Expr.Compare _ _ _ _) _) _ _ _))))); (with_reducible refine Mine.wp_fold ?_); intro zqq zqe) | (goal_has PySem.Shared.mk; (with_reducible refine Mine.st_let ?_); intro zqs; goal_lacks PySem.Shared.mk) | ((ctx_mentions ite List.lookup); (rename Fr _ _ _ _ => zqF9); revert zqF9; (goal_has ite List.lookup); (with_reducible refine Mine.fr_let ?_); intro zqm; goal_lacks ite List.lookup; intro zqF) | ((ctx_mentions List.cons HAppend.hAppend List.append); (rename News _ _ _ _ => zqN9); (fail_if_success (fail_if_success (conv at zqN9 => arg 4; arg 2))); (with_reducible refine Mine.news_let zqN9 ?_); intro zql zqN; clear zqN9) | (k_end; wrow_close) | (goal_has PySem.Stmt.For; ((fail_if_success (fail_if_success (with_reducible show wpAny _ _ (exec (PySem.Stmt.For (PySem.Expr.Name _ _) (PySem.Expr.Name _ _) (_ :: _) [] _) _) _ _ _))); (rename Fr _ _ _ _ => lF'); (with_unfolding_all refine' For_invVF lF' (by exact rfl) (by exact rfl) ?_; k_whole))) | (goal_has PySem.Value.builtin; first | ((fail_if_success (fail_if_success (with_reducible show wpAny _ _ (call (Value.builtin _) [Value.ref _, _]) _ _ _))); k_dflt (refine' append_K (by k_asm) (by k_asm) (by k_upd) ?_ (by ((rw [List.size_toArray, PySem.sizeLine_eq]); omega)); k_whole); intro zqh' zqF' zqN'; (try k_sweep)) | ((fail_if_success (fail_if_success (with_reducible show wpAny _ _ (call (Value.builtin "len") [Value.ref _]) _ _ _))); k_dflt (refine' Mine.len_filter (by assumption) (by assumption) (by first | assumption | omega) ?_; k_whole)) | ((fail_if_success (fail_if_success (with_reducible show wpAny _ _ (call (Value.builtin "sorted") [Value.ref _]) _ _ _))); k_dflt (refine' Mine.sorted_nil (by exact rfl) (by k_asm) (by k_asm) (by k_mem) (by k_asm) (by k_asm) ?_); intro zqD' zqn' zqh' zqtk' zqF' zqN' zql1; (try k_lt zql1); (try k_sweep)) | ((fail_if_success (fail_if_success (with_reducible show wpAny _ _ (call (Value.builtin "len") [Value.ref _]) _ _ _))); k_dflt (refine' kst_len (by k_asm) (by k_mem) (by exact IntsAre.length (by assumption)) (by omega) ?_; k_whole)) | ((fail_if_success (fail_if_success (with_reducible show wpAny _ _ (call (Value.builtin _) [Value.ref _, Value.int _ _]) _ _ _))); k_dflt (refine' Mine.pop0 (by k_asm) (by k_asm) (by k_upd) (by ((simp only [List.length_cons, sizeLine_eq]); omega)) ?_; k_whole); intro zqh' zqF' zqN'; (try k_sweep))) | (goal_has subscriptTail; first | ((fail_if_success (fail_if_success (with_reducible show wpAny _ _ (subscriptTail _ _ (Value.ref _) (Value.int _ _)) _ _ _))); k_dflt (refine' Mine.item_ints (by k_asm) (by k_mem) (by assumption) (by omega) (by omega) (by omega) ?_); intro zqx' zqt' zqhx') | ((fail_if_success (fail_if_success (with_reducible show wpAny _ _ (subscriptTail _ (PySem.Expr.Slice _ _ none _) (Value.ref _) (Value.ref _)) _ _ _))); k_dflt (refine' Mine.cut_slice (by k_asm) (by k_asm) (by k_mem) (by exact IsPart.int _ _) (by exact IsPart.int _ _) (by first | decide | omega) (by first | decide | omega) (by assumption) (by first | assumption | exact rfl) (by omega) ?_ (by with_unfolding_all rfl) (by kmk_pure)); intro zqD' zqh' zqws' zqzs' zqhzs' zqhzl' zqhzi' zqF' zqN' zql1; (try k_lt zql1); (try k_sweep))) | (goal_has binaryOp; first | ((fail_if_success (fail_if_success (with_reducible show wpAny _ _ (binaryOp Operator.Mult (Value.ref _) (Value.int _ _)) _ _ _))); k_dflt (refine' Mine.rep_list (by k_asm) (by k_asm) (by k_mem) (by first | decide | omega) (by first | decide | omega) ?_); intro zqD' zqh' zqws' zqzs' zqhzs' zqhzl' zqhzi' zqF' zqN' zql1; (try k_lt zql1); (try k_sweep)) | ((fail_if_success (fail_if_success (with_reducible show wpAny _ _ (binaryOp Operator.FloorDiv (Value.int _ _) (Value.int _ _)) _ _ _))); refine floordiv_int (by omega) ?_ (Or.inl (PyProof.noPylong_small (by omega))))) | (goal_has setItem; ((fail_if_success (fail_if_success (with_reducible show wpAny _ _ (setItem (Value.ref _) (Value.ref _) (Value.ref _)) _ _ _))); k_dflt (refine' Mine.set_slice_ints (by k_asm) (by k_asm) (by exact IsPart.int _ _) (by exact IsPart.int _ _) (by (intro zqo'; k_upd)) (by k_mem) (by first | decide | omega) (by first | decide | omega) (by k_ne) (by assumption) (by first | assumption | exact IntsAre.nil) (by first | assumption | exact rfl) (by first | assumption | exact rfl) (by omega) ?_); intro zqh' zqws' zqzs' zqn' zqhzs' zqhzl' zqhzi' zqF' zqN'; (try dsimp only at zqN'); (try k_sweep))) | (goal_has pyIter; ((fail_if_success (fail_if_success (with_reducible show wpAny _ _ (pyIter (Value.ref _)) (fun it s₂ => LoopAtV _ _ _ _ _ _ _ _ _ it s₂) _ _))); k_dflt (refine' Mine.iter_nil (by exact rfl) (by k_asm) (by k_asm) (by k_mem) ?_); intro zqh' zqtk' zqF' zqN'; (try k_sweep))) | (goal_has call; (fail_if_success (fail_if_success (with_reducible show wpAny _ _ (call (Value.ref _) _ _) _ _ _))); first | (k_dflt (first | (refine' call_cls0 (by k_asm) (by k_asm) (by k_asm) (by k_is) (by k_is) ?_; k_whole; intro zqx zqd zqh zqF zqN zql1 zql2; (try ((have zqU := Mine.lts_up zql1 zql2); (dsimp +zetaDelta only [List.map] at zqU))); (try k_lt zql1); (try k_lt2 zql2); (try k_sweep)) | ((first | (refine' call_cls (by k_asm) (by k_asm) (by k_asm) (by k_is) (by k_is) (by k_is) ?_; k_whole; intro zqx zqd zqh zqF zqN zql1 zql2; (try ((have zqU := Mine.lts_up zql1 zql2); (dsimp +zetaDelta only [List.map] at zqU))); (try k_lt zql1); (try k_lt2 zql2); (try k_sweep)) | (refine' Mine.call_fn (by k_asm) (by k_is) ?_; k_whole) | (refine' call_meth (by k_asm) (by k_mem) ?_; k_whole) | refine wpAny_call ?_); (first | (refine' code_defL (by exact rfl) (by exact rfl) (by first | exact rfl | assumption) (by k_asm) (by k_asm) (by k_asm) (by k_asm) (by k_asm) (by k_is) (by k_is) (by decide) (by ktr_room) (by first | exact BindsTo.of_eq rfl | exact binds_K (by k_in) rfl (by k_is) rfl rfl rfl) (by exact locs rfl) (by exact rfl) (by exact rfl) (by exact rfl) ?_; k_whole; intro zqg zqL zqh zqtk zqFG zqF zqN zqB zqX zqT zqe zqA; (try k_lift zqB); (try ((fail_if_success (fail_if_success k_fold)); (with_reducible refine Mine.wp_fold ?_); intro zqq zqe))) | (refine' code_defCL (by exact rfl) (by exact rfl) (by exact rfl) (by k_asm) (by k_asm) (by k_asm) (by k_asm) (by k_asm) (by k_is) (by k_is) (by ktr_room) (by first | exact BindsTo.of_eq rfl | exact binds_K (by k_in) rfl (by k_is) rfl rfl rfl) (by exact rfl) (by decide +kernel) (by exact rfl) (by exact rfl) (by exact rfl) ?_; k_whole; intro zqg zqL zqh zqtk zqcells zqFG zqF zqN zqY zqB zqX zqT zql1 zqe zqA; (try k_lt zql1); k_cells zqY; (try simp only [List.cons_append, List.nil_append] at zqN); (try dsimp only); (try k_lift zqB); (try ((fail_if_success (fail_if_success k_fold)); (with_reducible refine Mine.wp_fold ?_); intro zqq zqe)))))))) | walk1 | (dsimp only; walk1) | ((with_reducible show wpAny _ _ _ _ _ _); dsimp only) | (leave1; walk_say "STEP leave1"; (first | (with_reducible refine (?_ : wpAny _ _ _ _ _ _)) | try dsimp only)))))
    rename Fr _ _ _ _ => F6
    rename News _ _ _ _ => N6
    have hI1 : @Ne Nat I d := Ne.symm (off _ (.head _))
    have hI2 : @Ne Nat I c := Ne.symm (off _ (.tail _ (.head _)))
    have hI3 : @Ne Nat I bd := Ne.symm (off _ (.tail _ (.tail _ (.head _))))
    k_dflt (refine' Mine.fright_core (own := (I, oI) :: (bd, _) :: own) ?qek1 ?qekF ?qek3 ?qekN ?qek5 hi5 hlen5 ?qeo1 ?qeo2 hdc (.tail _ (.tail _ HB.mb)) (.tail _ (.head _)) (.tail _ (.tail _ HB.mg)) (.tail _ (.tail _ HB.mgp)) (.tail _ (.tail _ HB.mce)) (.tail _ (.tail _ HB.mcd)) HB.hz HB.hc HB.ez HB.egs HB.ege HB.hzz HB.hl0 HB.hcode HB.hb1 HB.hb2 HB.hb3 HB.hnm ?qekd ?qeku ?_)
    case qek1 => k_asm
    case qekF => exact F6
    case qek3 => k_asm
    case qekN => exact cb_drop N6 (List.forall_mem_cons.mpr ⟨.tail _ (.head _), List.forall_mem_cons.mpr ⟨.tail _ (.tail _ (.head _)), List.forall_mem_cons.mpr ⟨.head _, fun q hq => .tail _ (.tail _ (.tail _ hq))⟩⟩⟩)
    case qek5 => k_asm
    case qeo1 => exact List.forall_mem_cons.mpr ⟨hI1, List.forall_mem_cons.mpr ⟨Ne.symm HB.hdb, HB.offd⟩⟩
    case qeo2 => exact List.forall_mem_cons.mpr ⟨hI2, List.forall_mem_cons.mpr ⟨Ne.symm HB.hcb, HB.offc⟩⟩
    case qekd => ktr_room
    case qeku => ktr_units
    intro h7 tk7 vs7 ns7 k7 tk8 n7 nc7 hi7 hlen7 F7 N7
    (try dsimp only); (try ((fail_if_success (fail_if_success k_fold)); (with_reducible refine Mine.wp_fold ?_); intro zqq zqe))
    repeat' ((fail_if_success (with_reducible show wpAny _ _ (call (Value.ref (1020 : Nat)) _) _ _ _)); (fail_if_success (with_reducible show wpAny _ _ (call (Value.ref (1037 : Nat)) _) _ _ _)); (fail_if_success (with_reducible show wpAny _ _ (call (Value.ref (1032 : Nat)) _) _ _ _)); (fail_if_success (with_reducible show wpAny _ _ (call (Value.ref (1056 : Nat)) _) _ _ _)); (fail_if_success (with_reducible show wpAny _ _ (call (Value.ref (1063 : Nat)) _) _ _ _)); (fail_if_success (with_reducible show wpAny _ _ (call (Value.ref (1068 : Nat)) _) _ _ _)); (fail_if_success (with_reducible show wpAny _ _ (pyIter (Value.ref _)) (fun it s₂ => LoopAtV _ _ _ _ _ _ _ _ _ it s₂) _ _)); ((first | ((fail_if_success (fail_if_success k_unfold)); (first | (with_reducible refine (?_ : wpAny _ _ _ _ _ _)) | (k_unfold; (try dsimp only)))) | ((fail_if_success (fail_if_success k_fold)); (first | (goal_has PySem.exec; (fail_if_success (fail_if_success (with_reducible show wpAny _ _ (exec _ _) _ _ _)))) | (goal_has PySem.Expr.BoolOp; (fail_if_success (fail_if_success (with_reducible show wpAny _ _ (eval (PySem.Expr.BoolOp _ _ _) _) _ _ _)))) | (goal_has PySem.Expr.Call; (fail_if_success (fail_if_success (with_reducible show wpAny _ _ (eval (PySem.Expr.Call _ _ _ _) _) _ _ _)))) | (goal_has PySem.Expr.Compare; (fail_if_success (fail_if_success (with_reducible show wpAny _ _ (eval (PySem.Expr.Compare _ _ _ _) _) _ _ _))))); (with_reducible refine Mine.wp_fold ?_); intro zqq zqe) | (goal_has PySem.Shared.mk; (with_reducible refine Mine.st_let ?_); intro zqs; goal_lacks PySem.Shared.mk) | ((ctx_mentions ite List.lookup); (rename Fr _ _ _ _ => zqF9); revert zqF9; (goal_has ite List.lookup); (with_reducible refine Mine.fr_let ?_); intro zqm; goal_lacks ite List.lookup; intro zqF) | ((ctx_mentions List.cons HAppend.hAppend List.append); (rename News _ _ _ _ => zqN9); (fail_if_success (fail_if_success (conv at zqN9 => arg 4; arg 2))); (with_reducible refine Mine.news_let zqN9 ?_); intro zql zqN; clear zqN9) | (k_end; wrow_close) | (goal_has PySem.Stmt.For; ((fail_if_success (fail_if_success (with_reducible show wpAny _ _ (exec (PySem.Stmt.For (PySem.Expr.Name _ _) (PySem.Expr.Name _ _) (_ :: _) [] _) _) _ _ _))); (rename Fr _ _ _ _ => lF'); (with_unfolding_all refine' For_invVF lF' (by exact rfl) (by exact rfl) ?_; k_whole))) | (goal_has PySem.Value.builtin; first | ((fail_if_success (fail_if_success (with_reducible show wpAny _ _ (call (Value.builtin _) [Value.ref _, _]) _ _ _))); k_dflt (refine' append_K (by k_asm) (by k_asm) (by k_upd) ?_ (by ((rw [List.size_toArray, PySem.sizeLine_eq]); omega)); k_whole); intro zqh' zqF' zqN'; (try k_sweep)) | ((fail_if_success (fail_if_success (with_reducible show wpAny _ _ (call (Value.builtin "len") [Value.ref _]) _ _ _))); k_dflt (refine' Mine.len_filter (by assumption) (by assumption) (by first | assumption | omega) ?_; k_whole)) | ((fail_if_success (fail_if_success (with_reducible show wpAny _ _ (call (Value.builtin "sorted") [Value.ref _]) _ _ _))); k_dflt (refine' Mine.sorted_nil (by exact rfl) (by k_asm) (by k_asm) (by k_mem) (by k_asm) (by k_asm) ?_); intro zqD' zqn' zqh' zqtk' zqF' zqN' zql1; (try k_lt zql1); (try k_sweep)) | ((fail_if_success (fail_if_success (with_reducible show wpAny _ _ (call (Value.builtin "len") [Value.ref _]) _ _ _))); k_dflt (refine' kst_len (by k_asm) (by k_mem) (by exact IntsAre.length (by assumption)) (by omega) ?_; k_whole)) | ((fail_if_success (fail_if_success (with_reducible show wpAny _ _ (call (Value.builtin _) [Value.ref _, Value.int _ _]) _ _ _))); k_dflt (refine' Mine.pop0 (by k_asm) (by k_asm) (by k_upd) (by ((simp only [List.length_cons, sizeLine_eq]); omega)) ?_; k_whole); intro zqh' zqF' zqN'; (try k_sweep))) | (goal_has subscriptTail; first | ((fail_if_success (fail_if_success (with_reducible show wpAny _ _ (subscriptTail _ _ (Value.ref _) (Value.int _ _)) _ _ _))); k_dflt (refine' Mine.item_ints (by k_asm) (by k_mem) (by assumption) (by omega) (by omega) (by omega) ?_); intro zqx' zqt' zqhx') | ((fail_if_success (fail_if_success (with_reducible show wpAny _ _ (subscriptTail _ (PySem.Expr.Slice _ _ none _) (Value.ref _) (Value.ref _)) _ _ _))); k_dflt (refine' Mine.cut_slice (by k_asm) (by k_asm) (by k_mem) (by exact IsPart.int _ _) (by exact IsPart.int _ _) (by first | decide | omega) (by first | decide | omega) (by assumption) (by first | assumption | exact rfl) (by omega) ?_ (by with_unfolding_all rfl) (by kmk_pure)); intro zqD' zqh' zqws' zqzs' zqhzs' zqhzl' zqhzi' zqF' zqN' zql1; (try k_lt zql1); (try k_sweep))) | (goal_has binaryOp; first | ((fail_if_success (fail_if_success (with_reducible show wpAny _ _ (binaryOp Operator.Mult (Value.ref _) (Value.int _ _)) _ _ _))); k_dflt (refine' Mine.rep_list (by k_asm) (by k_asm) (by k_mem) (by first | decide | omega) (by first | decide | omega) ?_); intro zqD' zqh' zqws' zqzs' zqhzs' zqhzl' zqhzi' zqF' zqN' zql1; (try k_lt zql1); (try k_sweep)) | ((fail_if_success (fail_if_success (with_reducible show wpAny _ _ (binaryOp Operator.FloorDiv (Value.int _ _) (Value.int _ _)) _ _ _))); refine floordiv_int (by omega) ?_ (Or.inl (PyProof.noPylong_small (by omega))))) | (goal_has setItem; ((fail_if_success (fail_if_success (with_reducible show wpAny _ _ (setItem (Value.ref _) (Value.ref _) (Value.ref _)) _ _ _))); k_dflt (refine' Mine.set_slice_ints (by k_asm) (by k_asm) (by exact IsPart.int _ _) (by exact IsPart.int _ _) (by (intro zqo'; k_upd)) (by k_mem) (by first | decide | omega) (by first | decide | omega) (by k_ne) (by assumption) (by first | assumption | exact IntsAre.nil) (by first | assumption | exact rfl) (by first | assumption | exact rfl) (by omega) ?_); intro zqh' zqws' zqzs' zqn' zqhzs' zqhzl' zqhzi' zqF' zqN'; (try dsimp only at zqN'); (try k_sweep))) | (goal_has pyIter; ((fail_if_success (fail_if_success (with_reducible show wpAny _ _ (pyIter (Value.ref _)) (fun it s₂ => LoopAtV _ _ _ _ _ _ _ _ _ it s₂) _ _))); k_dflt (refine' Mine.iter_nil (by exact rfl) (by k_asm) (by k_asm) (by k_mem) ?_); intro zqh' zqtk' zqF' zqN'; (try k_sweep))) | (goal_has call; (fail_if_success (fail_if_success (with_reducible show wpAny _ _ (call (Value.ref _) _ _) _ _ _))); first | (k_dflt (first | (refine' call_cls0 (by k_asm) (by k_asm) (by k_asm) (by k_is) (by k_is) ?_; k_whole; intro zqx zqd zqh zqF zqN zql1 zql2; (try ((have zqU := Mine.lts_up zql1 zql2); (dsimp +zetaDelta only [List.map] at zqU))); (try k_lt zql1); (try k_lt2 zql2); (try k_sweep)) | ((first | (refine' call_cls (by k_asm) (by k_asm) (by k_asm) (by k_is) (by k_is) (by k_is) ?_; k_whole; intro zqx zqd zqh zqF zqN zql1 zql2; (try ((have zqU := Mine.lts_up zql1 zql2); (dsimp +zetaDelta only [List.map] at zqU))); (try k_lt zql1); (try k_lt2 zql2); (try k_sweep)) | (refine' Mine.call_fn (by k_asm) (by k_is) ?_; k_whole) | (refine' call_meth (by k_asm) (by k_mem) ?_; k_whole) | refine wpAny_call ?_); (first | (refine' code_defL (by exact rfl) (by exact rfl) (by first | exact rfl | assumption) (by k_asm) (by k_asm) (by k_asm) (by k_asm) (by k_asm) (by k_is) (by k_is) (by decide) (by ktr_room) (by first | exact BindsTo.of_eq rfl | exact binds_K (by k_in) rfl (by k_is) rfl rfl rfl) (by exact locs rfl) (by exact rfl) (by exact rfl) (by exact rfl) ?_; k_whole; intro zqg zqL zqh zqtk zqFG zqF zqN zqB zqX zqT zqe zqA; (try k_lift zqB); (try ((fail_if_success (fail_if_success k_fold)); (with_reducible refine Mine.wp_fold ?_); intro zqq zqe))) | (refine' code_defCL (by exact rfl) (by exact rfl) (by exact rfl) (by k_asm) (by k_asm) (by k_asm) (by k_asm) (by k_asm) (by k_is) (by k_is) (by ktr_room) (by first | exact BindsTo.of_eq rfl | exact binds_K (by k_in) rfl (by k_is) rfl rfl rfl) (by exact rfl) (by decide +kernel) (by exact rfl) (by exact rfl) (by exact rfl) ?_; k_whole; intro zqg zqL zqh zqtk zqcells zqFG zqF zqN zqY zqB zqX zqT zql1 zqe zqA; (try k_lt zql1); k_cells zqY; (try simp only [List.cons_append, List.nil_append] at zqN); (try dsimp only); (try k_lift zqB); (try ((fail_if_success (fail_if_success k_fold)); (with_reducible refine Mine.wp_fold ?_); intro zqq zqe)))))))) | walk1 | (dsimp only; walk1) | ((with_reducible show wpAny _ _ _ _ _ _); dsimp only) | (leave1; walk_say "STEP leave1"; (first | (with_reducible refine (?_ : wpAny _ _ _ _ _ _)) | try dsimp only)))))
    rename Fr _ _ _ _ => F6
    rename News _ _ _ _ => N6
    k_dflt (refine' Mine.points_core (own := (I, oI) :: own) ?qfk1 ?qfkF ?qfk3 ?qfkN ?qfk5 hi7 hlen7 ?qfo1 ?qfo2 ?qfo3 hdc HB.hdb HB.hcb (.tail _ HB.mb) (.tail _ HB.mg) (.tail _ HB.mgp) (.tail _ HB.mce) HB.hz HB.ez HB.egs HB.ege HB.hzz HB.hl0 HB.hb1 HB.hb2 HB.hb3 ?qfkd ?qfku ?_)
    case qfk1 => k_asm
    case qfkF => exact F6
    case qfk3 => k_asm
    case qfkN => exact cb_drop N6 (List.forall_mem_cons.mpr ⟨.head _, List.forall_mem_cons.mpr ⟨.tail _ (.head _), List.forall_mem_cons.mpr ⟨.tail _ (.tail _ (.tail _ (.head _))), List.forall_mem_cons.mpr ⟨.tail _ (.tail _ (.head _)), fun q hq => .tail _ (.tail _ (.tail _ (.tail _ hq)))⟩⟩⟩⟩)
    case qfk5 => k_asm
    case qfo1 => exact List.forall_mem_cons.mpr ⟨hI1, HB.offd⟩
    case qfo2 => exact List.forall_mem_cons.mpr ⟨hI2, HB.offc⟩
    case qfo3 => exact List.forall_mem_cons.mpr ⟨hI3, HB.offb⟩
    case qfkd => ktr_room
    case qfku => ktr_units
    intro h9 tk9 vs9 ns9 k9 tk10 n9 nc9 T9 pt9 hi9 hlen9 F9 N9
    (try dsimp only); (try ((fail_if_success (fail_if_success k_fold)); (with_reducible refine Mine.wp_fold ?_); intro zqq zqe))
    repeat' ((fail_if_success (with_reducible show wpAny _ _ (call (Value.ref (1020 : Nat)) _) _ _ _)); (fail_if_success (with_reducible show wpAny _ _ (call (Value.ref (1037 : Nat)) _) _ _ _)); (fail_if_success (with_reducible show wpAny _ _ (call (Value.ref (1032 : Nat)) _) _ _ _)); (fail_if_success (with_reducible show wpAny _ _ (call (Value.ref (1056 : Nat)) _) _ _ _)); (fail_if_success (with_reducible show wpAny _ _ (call (Value.ref (1063 : Nat)) _) _ _ _)); (fail_if_success (with_reducible show wpAny _ _ (call (Value.ref (1068 : Nat)) _) _ _ _)); (fail_if_success (with_reducible show wpAny _ _ (pyIter (Value.ref _)) (fun it s₂ => LoopAtV _ _ _ _ _ _ _ _ _ it s₂) _ _)); ((first | ((fail_if_success (fail_if_success k_unfold)); (first | (with_reducible refine (?_ : wpAny _ _ _ _ _ _)) | (k_unfold; (try dsimp only)))) | ((fail_if_success (fail_if_success k_fold)); (first | (goal_has PySem.exec; (fail_if_success (fail_if_success (with_reducible show wpAny _ _ (exec _ _) _ _ _)))) | (goal_has PySem.Expr.BoolOp; (fail_if_success (fail_if_success (with_reducible show wpAny _ _ (eval (PySem.Expr.BoolOp _ _ _) _) _ _ _)))) | (goal_has PySem.Expr.Call; (fail_if_success (fail_if_success (with_reducible show wpAny _ _ (eval (PySem.Expr.Call _ _ _ _) _) _ _ _)))) | (goal_has PySem.Expr.Compare; (fail_if_success (fail_if_success (with_reducible show wpAny _ _ (eval (PySem.Expr.Compare _ _ _ _) _) _ _ _))))); (with_reducible refine Mine.wp_fold ?_); intro zqq zqe) | (goal_has PySem.Shared.mk; (with_reducible refine Mine.st_let ?_); intro zqs; goal_lacks PySem.Shared.mk) | ((ctx_mentions ite List.lookup); (rename Fr _ _ _ _ => zqF9); revert zqF9; (goal_has ite List.lookup); (with_reducible refine Mine.fr_let ?_); intro zqm; goal_lacks ite List.lookup; intro zqF) | ((ctx_mentions List.cons HAppend.hAppend List.append); (rename News _ _ _ _ => zqN9); (fail_if_success (fail_if_success (conv at zqN9 => arg 4; arg 2))); (with_reducible refine Mine.news_let zqN9 ?_); intro zql zqN; clear zqN9) | (k_end; wrow_close) | (goal_has PySem.Stmt.For; ((fail_if_success (fail_if_success (with_reducible show wpAny _ _ (exec (PySem.Stmt.For (PySem.Expr.Name _ _) (PySem.Expr.Name _ _) (_ :: _) [] _) _) _ _ _))); (rename Fr _ _ _ _ => lF'); (with_unfolding_all refine' For_invVF lF' (by exact rfl) (by exact rfl) ?_; k_whole))) | (goal_has PySem.Value.builtin; first | ((fail_if_success (fail_if_success (with_reducible show wpAny _ _ (call (Value.builtin _) [Value.ref _, _]) _ _ _))); k_dflt (refine' append_K (by k_asm) (by k_asm) (by k_upd) ?_ (by ((rw [List.size_toArray, PySem.sizeLine_eq]); omega)); k_whole); intro zqh' zqF' zqN'; (try k_sweep)) | ((fail_if_success (fail_if_success (with_reducible show wpAny _ _ (call (Value.builtin "len") [Value.ref _]) _ _ _))); k_dflt (refine' Mine.len_filter (by assumption) (by assumption) (by first | assumption | omega) ?_; k_whole)) | ((fail_if_success (fail_if_success (with_reducible show wpAny _ _ (call (Value.builtin "sorted") [Value.ref _]) _ _ _))); k_dflt (refine' Mine.sorted_nil (by exact rfl) (by k_asm) (by k_asm) (by k_mem) (by k_asm) (by k_asm) ?_); intro zqD' zqn' zqh' zqtk' zqF' zqN' zql1; (try k_lt zql1); (try k_sweep)) | ((fail_if_success (fail_if_success (with_reducible show wpAny _ _ (call (Value.builtin "len") [Value.ref _]) _ _ _))); k_dflt (refine' kst_len (by k_asm) (by k_mem) (by exact IntsAre.length (by assumption)) (by omega) ?_; k_whole)) | ((fail_if_success (fail_if_success (with_reducible show wpAny _ _ (call (Value.builtin _) [Value.ref _, Value.int _ _]) _ _ _))); k_dflt (refine' Mine.pop0 (by k_asm) (by k_asm) (by k_upd) (by ((simp only [List.length_cons, sizeLine_eq]); omega)) ?_; k_whole); intro zqh' zqF' zqN'; (try k_sweep))) | (goal_has subscriptTail; first | ((fail_if_success (fail_if_success (with_reducible show wpAny _ _ (subscriptTail _ _ (Value.ref _) (Value.int _ _)) _ _ _))); k_dflt (refine' Mine.item_ints (by k_asm) (by k_mem) (by assumption) (by omega) (by omega) (by omega) ?_); intro zqx' zqt' zqhx') | ((fail_if_success (fail_if_success (with_reducible show wpAny _ _ (subscriptTail _ (PySem.Expr.Slice _ _ none _) (Value.ref _) (Value.ref _)) _ _ _))); k_dflt (refine' Mine.cut_slice (by k_asm) (by k_asm) (by k_mem) (by exact IsPart.int _ _) (by exact IsPart.int _ _) (by first | decide | omega) (by first | decide | omega) (by assumption) (by first | assumption | exact rfl) (by omega) ?_ (by with_unfolding_all rfl) (by kmk_pure)); intro zqD' zqh' zqws' zqzs' zqhzs' zqhzl' zqhzi' zqF' zqN' zql1; (try k_lt zql1); (try k_sweep))) | (goal_has binaryOp; first | ((fail_if_success (fail_if_success (with_reducible show wpAny _ _ (binaryOp Operator.Mult (Value.ref _) (Value.int _ _)) _ _ _))); k_dflt (refine' Mine.rep_list (by k_asm) (by k_asm) (by k_mem) (by first | decide | omega) (by first | decide | omega) ?_); intro zqD' zqh' zqws' zqzs' zqhzs' zqhzl' zqhzi' zqF' zqN' zql1; (try k_lt zql1); (try k_sweep)) | ((fail_if_success (fail_if_success (with_reducible show wpAny _ _ (binaryOp Operator.FloorDiv (Value.int _ _) (Value.int _ _)) _ _ _))); refine floordiv_int (by omega) ?_ (Or.inl (PyProof.noPylong_small (by omega))))) | (goal_has setItem; ((fail_if_success (fail_if_success (with_reducible show wpAny _ _ (setItem (Value.ref _) (Value.ref _) (Value.ref _)) _ _ _))); k_dflt (refine' Mine.set_slice_ints (by k_asm) (by k_asm) (by exact IsPart.int _ _) (by exact IsPart.int _ _) (by (intro zqo'; k_upd)) (by k_mem) (by first | decide | omega) (by first | decide | omega) (by k_ne) (by assumption) (by first | assumption | exact IntsAre.nil) (by first | assumption | exact rfl) (by first | assumption | exact rfl) (by omega) ?_); intro zqh' zqws' zqzs' zqn' zqhzs' zqhzl' zqhzi' zqF' zqN'; (try dsimp only at zqN'); (try k_sweep))) | (goal_has pyIter; ((fail_if_success (fail_if_success (with_reducible show wpAny _ _ (pyIter (Value.ref _)) (fun it s₂ => LoopAtV _ _ _ _ _ _ _ _ _ it s₂) _ _))); k_dflt (refine' Mine.iter_nil (by exact rfl) (by k_asm) (by k_asm) (by k_mem) ?_); intro zqh' zqtk' zqF' zqN'; (try k_sweep))) | (goal_has call; (fail_if_success (fail_if_success (with_reducible show wpAny _ _ (call (Value.ref _) _ _) _ _ _))); first | (k_dflt (first | (refine' call_cls0 (by k_asm) (by k_asm) (by k_asm) (by k_is) (by k_is) ?_; k_whole; intro zqx zqd zqh zqF zqN zql1 zql2; (try ((have zqU := Mine.lts_up zql1 zql2); (dsimp +zetaDelta only [List.map] at zqU))); (try k_lt zql1); (try k_lt2 zql2); (try k_sweep)) | ((first | (refine' call_cls (by k_asm) (by k_asm) (by k_asm) (by k_is) (by k_is) (by k_is) ?_; k_whole; intro zqx zqd zqh zqF zqN zql1 zql2; (try ((have zqU := Mine.lts_up zql1 zql2); (dsimp +zetaDelta only [List.map] at zqU))); (try k_lt zql1); (try k_lt2 zql2); (try k_sweep)) | (refine' Mine.call_fn (by k_asm) (by k_is) ?_; k_whole) | (refine' call_meth (by k_asm) (by k_mem) ?_; k_whole) | refine wpAny_call ?_); (first | (refine' code_defL (by exact rfl) (by exact rfl) (by first | exact rfl | assumption) (by k_asm) (by k_asm) (by k_asm) (by k_asm) (by k_asm) (by k_is) (by k_is) (by decide) (by ktr_room) (by first | exact BindsTo.of_eq rfl | exact binds_K (by k_in) rfl (by k_is) rfl rfl rfl) (by exact locs rfl) (by exact rfl) (by exact rfl) (by exact rfl) ?_; k_whole; intro zqg zqL zqh zqtk zqFG zqF zqN zqB zqX zqT zqe zqA; (try k_lift zqB); (try ((fail_if_success (fail_if_success k_fold)); (with_reducible refine Mine.wp_fold ?_); intro zqq zqe))) | (refine' code_defCL (by exact rfl) (by exact rfl) (by exact rfl) (by k_asm) (by k_asm) (by k_asm) (by k_asm) (by k_asm) (by k_is) (by k_is) (by ktr_room) (by first | exact BindsTo.of_eq rfl | exact binds_K (by k_in) rfl (by k_is) rfl rfl rfl) (by exact rfl) (by decide +kernel) (by exact rfl) (by exact rfl) (by exact rfl) ?_; k_whole; intro zqg zqL zqh zqtk zqcells zqFG zqF zqN zqY zqB zqX zqT zql1 zqe zqA; (try k_lt zql1); k_cells zqY; (try simp only [List.cons_append, List.nil_append] at zqN); (try dsimp only); (try k_lift zqB); (try ((fail_if_success (fail_if_success k_fold)); (with_reducible refine Mine.wp_fold ?_); intro zqq zqe)))))))) | walk1 | (dsimp only; walk1) | ((with_reducible show wpAny _ _ _ _ _ _); dsimp only) | (leave1; walk_say "STEP leave1"; (first | (with_reducible refine (?_ : wpAny _ _ _ _ _ _)) | try dsimp only)))))
    rename Fr _ _ _ _ => F8
    rename News _ _ _ _ => N8
    refine led_next (_, _, _, _, ns9, _, _, _) F8 N8 (all_cons (fr_at F8 rfl) (all_cons (fr_at F8 rfl) (all_cons (fr_at F8 rfl) all_nil)))
      (List.forall_mem_cons.mpr ⟨.tail _ (.tail _ (.tail _ (.head _))), List.forall_mem_cons.mpr ⟨.head _, List.forall_mem_cons.mpr ⟨.tail _ (.head _), List.forall_mem_cons.mpr ⟨.tail _ (.tail _ (.head _)), fun q hq => .tail _ (.tail _ (.tail _ (.tail _ hq)))⟩⟩⟩⟩)
      (List.forall_mem_cons.mpr ⟨Ne.symm hI1, List.forall_mem_cons.mpr ⟨Ne.symm hI2, List.forall_mem_cons.mpr ⟨Ne.symm hI3, fun q hq => off q (.tail _ (.tail _ (.tail _ hq)))⟩⟩⟩) ⟨hi9, hlen9⟩
  case qddone =>
    intro q u h tk hj F' N'
    obtain ⟨k5, tk5, n5, vs5, ns5, nc5, T5, pt5⟩ := q
    obtain ⟨hi5, hlen5⟩ := hj
    dsimp only at hi5 hlen5 F' N' ⊢
    dsimp +zetaDelta only [envOf] at F' N'
    repeat' ((fail_if_success (with_reducible show wpAny _ _ (call (Value.ref (1020 : Nat)) _) _ _ _)); (fail_if_success (with_reducible show wpAny _ _ (call (Value.ref (1037 : Nat)) _) _ _ _)); (fail_if_success (with_reducible show wpAny _ _ (call (Value.ref (1032 : Nat)) _) _ _ _)); (fail_if_success (with_reducible show wpAny _ _ (call (Value.ref (1056 : Nat)) _) _ _ _)); (fail_if_success (with_reducible show wpAny _ _ (call (Value.ref (1063 : Nat)) _) _ _ _)); (fail_if_success (with_reducible show wpAny _ _ (call (Value.ref (1068 : Nat)) _) _ _ _)); (fail_if_success (with_reducible show wpAny _ _ (pyIter (Value.ref _)) (fun it s₂ => LoopAtV _ _ _ _ _ _ _ _ _ it s₂) _ _)); ((first | ((fail_if_success (fail_if_success k_unfold)); (first | (with_reducible refine (?_ : wpAny _ _ _ _ _ _)) | (k_unfold; (try dsimp only)))) | ((fail_if_success (fail_if_success k_fold)); (first | (goal_has PySem.exec; (fail_if_success (fail_if_success (with_reducible show wpAny _ _ (exec _ _) _ _ _)))) | (goal_has PySem.Expr.BoolOp; (fail_if_success (fail_if_success (with_reducible show wpAny _ _ (eval (PySem.Expr.BoolOp _ _ _) _) _ _ _)))) | (goal_has PySem.Expr.Call; (fail_if_success (fail_if_success (with_reducible show wpAny _ _ (eval (PySem.Expr.Call _ _ _ _) _) _ _ _)))) | (goal_has PySem.Expr.Compare; (fail_if_success (fail_if_success (with_reducible show wpAny _ _ (eval (PySem.Expr.Compare _ _ _ _) _) _ _ _))))); (with_reducible refine Mine.wp_fold ?_); intro zqq zqe) | (goal_has PySem.Shared.mk; (with_reducible refine Mine.st_let ?_); intro zqs; goal_lacks PySem.Shared.mk) | ((ctx_mentions ite List.lookup); (rename Fr _ _ _ _ => zqF9); revert zqF9; (goal_has ite List.lookup); (with_reducible refine Mine.fr_let ?_); intro zqm; goal_lacks ite List.lookup; intro zqF) | ((ctx_mentions List.cons HAppend.hAppend List.append); (rename News _ _ _ _ => zqN9); (fail_if_success (fail_if_success (conv at zqN9 => arg 4; arg 2))); (with_reducible refine Mine.news_let zqN9 ?_); intro zql zqN; clear zqN9) | (k_end; wrow_close) | (goal_has PySem.Stmt.For; ((fail_if_success (fail_if_success (with_reducible show wpAny _ _ (exec (PySem.Stmt.For (PySem.Expr.Name _ _) (PySem.Expr.Name _ _) (_ :: _) [] _) _) _ _ _))); (rename Fr _ _ _ _ => lF'); (with_unfolding_all refine' For_invVF lF' (by exact rfl) (by exact rfl) ?_; k_whole))) | (goal_has PySem.Value.builtin; first | ((fail_if_success (fail_if_success (with_reducible show wpAny _ _ (call (Value.builtin _) [Value.ref _, _]) _ _ _))); k_dflt (refine' append_K (by k_asm) (by k_asm) (by k_upd) ?_ (by ((rw [List.size_toArray, PySem.sizeLine_eq]); omega)); k_whole); intro zqh' zqF' zqN'; (try k_sweep)) | ((fail_if_success (fail_if_success (with_reducible show wpAny _ _ (call (Value.builtin "len") [Value.ref _]) _ _ _))); k_dflt (refine' Mine.len_filter (by assumption) (by assumption) (by first | assumption | omega) ?_; k_whole)) | ((fail_if_success (fail_if_success (with_reducible show wpAny _ _ (call (Value.builtin "sorted") [Value.ref _]) _ _ _))); k_dflt (refine' Mine.sorted_nil (by exact rfl) (by k_asm) (by k_asm) (by k_mem) (by k_asm) (by k_asm) ?_); intro zqD' zqn' zqh' zqtk' zqF' zqN' zql1; (try k_lt zql1); (try k_sweep)) | ((fail_if_success (fail_if_success (with_reducible show wpAny _ _ (call (Value.builtin "len") [Value.ref _]) _ _ _))); k_dflt (refine' kst_len (by k_asm) (by k_mem) (by exact IntsAre.length (by assumption)) (by omega) ?_; k_whole)) | ((fail_if_success (fail_if_success (with_reducible show wpAny _ _ (call (Value.builtin _) [Value.ref _, Value.int _ _]) _ _ _))); k_dflt (refine' Mine.pop0 (by k_asm) (by k_asm) (by k_upd) (by ((simp only [List.length_cons, sizeLine_eq]); omega)) ?_; k_whole); intro zqh' zqF' zqN'; (try k_sweep))) | (goal_has subscriptTail; first | ((fail_if_success (fail_if_success (with_reducible show wpAny _ _ (subscriptTail _ _ (Value.ref _) (Value.int _ _)) _ _ _))); k_dflt (refine' Mine.item_ints (by k_asm) (by k_mem) (by assumption) (by omega) (by omega) (by omega) ?_); intro zqx' zqt' zqhx') | ((fail_if_success (fail_if_success (with_reducible show wpAny _ _ (subscriptTail _ (PySem.Expr.Slice _ _ none _) (Value.ref _) (Value.ref _)) _ _ _))); k_dflt (refine' Mine.cut_slice (by k_asm) (by k_asm) (by k_mem) (by exact IsPart.int _ _) (by exact IsPart.int _ _) (by first | decide | omega) (by first | decide | omega) (by assumption) (by first | assumption | exact rfl) (by omega) ?_ (by with_unfolding_all rfl) (by kmk_pure)); intro zqD' zqh' zqws' zqzs' zqhzs' zqhzl' zqhzi' zqF' zqN' zql1; (try k_lt zql1); (try k_sweep))) | (goal_has binaryOp; first | ((fail_if_success (fail_if_success (with_reducible show wpAny _ _ (binaryOp Operator.Mult (Value.ref _) (Value.int _ _)) _ _ _))); k_dflt (refine' Mine.rep_list (by k_asm) (by k_asm) (by k_mem) (by first | decide | omega) (by first | decide | omega) ?_); intro zqD' zqh' zqws' zqzs' zqhzs' zqhzl' zqhzi' zqF' zqN' zql1; (try k_lt zql1); (try k_sweep)) | ((fail_if_success (fail_if_success (with_reducible show wpAny _ _ (binaryOp Operator.FloorDiv (Value.int _ _) (Value.int _ _)) _ _ _))); refine floordiv_int (by omega) ?_ (Or.inl (PyProof.noPylong_small (by omega))))) | (goal_has setItem; ((fail_if_success (fail_if_success (with_reducible show wpAny _ _ (setItem (Value.ref _) (Value.ref _) (Value.ref _)) _ _ _))); k_dflt (refine' Mine.set_slice_ints (by k_asm) (by k_asm) (by exact IsPart.int _ _) (by exact IsPart.int _ _) (by (intro zqo'; k_upd)) (by k_mem) (by first | decide | omega) (by first | decide | omega) (by k_ne) (by assumption) (by first | assumption | exact IntsAre.nil) (by first | assumption | exact rfl) (by first | assumption | exact rfl) (by omega) ?_); intro zqh' zqws' zqzs' zqn' zqhzs' zqhzl' zqhzi' zqF' zqN'; (try dsimp only at zqN'); (try k_sweep))) | (goal_has pyIter; ((fail_if_success (fail_if_success (with_reducible show wpAny _ _ (pyIter (Value.ref _)) (fun it s₂ => LoopAtV _ _ _ _ _ _ _ _ _ it s₂) _ _))); k_dflt (refine' Mine.iter_nil (by exact rfl) (by k_asm) (by k_asm) (by k_mem) ?_); intro zqh' zqtk' zqF' zqN'; (try k_sweep))) | (goal_has call; (fail_if_success (fail_if_success (with_reducible show wpAny _ _ (call (Value.ref _) _ _) _ _ _))); first | (k_dflt (first | (refine' call_cls0 (by k_asm) (by k_asm) (by k_asm) (by k_is) (by k_is) ?_; k_whole; intro zqx zqd zqh zqF zqN zql1 zql2; (try ((have zqU := Mine.lts_up zql1 zql2); (dsimp +zetaDelta only [List.map] at zqU))); (try k_lt zql1); (try k_lt2 zql2); (try k_sweep)) | ((first | (refine' call_cls (by k_asm) (by k_asm) (by k_asm) (by k_is) (by k_is) (by k_is) ?_; k_whole; intro zqx zqd zqh zqF zqN zql1 zql2; (try ((have zqU := Mine.lts_up zql1 zql2); (dsimp +zetaDelta only [List.map] at zqU))); (try k_lt zql1); (try k_lt2 zql2); (try k_sweep)) | (refine' Mine.call_fn (by k_asm) (by k_is) ?_; k_whole) | (refine' call_meth (by k_asm) (by k_mem) ?_; k_whole) | refine wpAny_call ?_); (first | (refine' code_defL (by exact rfl) (by exact rfl) (by first | exact rfl | assumption) (by k_asm) (by k_asm) (by k_asm) (by k_asm) (by k_asm) (by k_is) (by k_is) (by decide) (by ktr_room) (by first | exact BindsTo.of_eq rfl | exact binds_K (by k_in) rfl (by k_is) rfl rfl rfl) (by exact locs rfl) (by exact rfl) (by exact rfl) (by exact rfl) ?_; k_whole; intro zqg zqL zqh zqtk zqFG zqF zqN zqB zqX zqT zqe zqA; (try k_lift zqB); (try ((fail_if_success (fail_if_success k_fold)); (with_reducible refine Mine.wp_fold ?_); intro zqq zqe))) | (refine' code_defCL (by exact rfl) (by exact rfl) (by exact rfl) (by k_asm) (by k_asm) (by k_asm) (by k_asm) (by k_asm) (by k_is) (by k_is) (by ktr_room) (by first | exact BindsTo.of_eq rfl | exact binds_K (by k_in) rfl (by k_is) rfl rfl rfl) (by exact rfl) (by decide +kernel) (by exact rfl) (by exact rfl) (by exact rfl) ?_; k_whole; intro zqg zqL zqh zqtk zqcells zqFG zqF zqN zqY zqB zqX zqT zql1 zqe zqA; (try k_lt zql1); k_cells zqY; (try simp only [List.cons_append, List.nil_append] at zqN); (try dsimp only); (try k_lift zqB); (try ((fail_if_success (fail_if_success k_fold)); (with_reducible refine Mine.wp_fold ?_); intro zqq zqe)))))))) | walk1 | (dsimp only; walk1) | ((with_reducible show wpAny _ _ _ _ _ _); dsimp only) | (leave1; walk_say "STEP leave1"; (first | (with_reducible refine (?_ : wpAny _ _ _ _ _ _)) | try dsimp only)))))
    rename Fr _ _ _ _ => F6
    rename News _ _ _ _ => N6
    k_dflt (refine' Mine.echo_core ?qgk1 ?qgkF ?qgk3 ?qgkN ?qgk5 hi5 hlen5 hdc ?qgkd ?qgku ?_)
    case qgk1 => k_asm
    case qgkF => exact F6
    case qgk3 => k_asm
    case qgkN => exact cb_drop N6 (List.forall_mem_cons.mpr ⟨.head _, List.forall_mem_cons.mpr ⟨.tail _ (.head _), List.forall_mem_nil _⟩⟩)
    case qgk5 => k_asm
    case qgkd => ktr_room
    case qgku => ktr_units
    intro h7 tk7 F7
    (try dsimp only); (try ((fail_if_success (fail_if_success k_fold)); (with_reducible refine Mine.wp_fold ?_); intro zqq zqe))
    repeat' ((first | ((fail_if_success (fail_if_success k_unfold)); (first | (with_reducible refine (?_ : wpAny _ _ _ _ _ _)) | (k_unfold; (try dsimp only)))) | ((fail_if_success (fail_if_success k_fold)); (first | (goal_has PySem.exec; (fail_if_success (fail_if_success (with_reducible show wpAny _ _ (exec _ _) _ _ _)))) | (goal_has PySem.Expr.BoolOp; (fail_if_success (fail_if_success (with_reducible show wpAny _ _ (eval (PySem.Expr.BoolOp _ _ _) _) _ _ _)))) | (goal_has PySem.Expr.Call; (fail_if_success (fail_if_success (with_reducible show wpAny _ _ (eval (PySem.Expr.Call _ _ _ _) _) _ _ _)))) | (goal_has PySem.Expr.Compare; (fail_if_success (fail_if_success (with_reducible show wpAny _ _ (eval (PySem.Expr.Compare _ _ _ _) _) _ _ _))))); (with_reducible refine Mine.wp_fold ?_); intro zqq zqe) | (goal_has PySem.Shared.mk; (with_reducible refine Mine.st_let ?_); intro zqs; goal_lacks PySem.Shared.mk) | ((ctx_mentions ite List.lookup); (rename Fr _ _ _ _ => zqF9); revert zqF9; (goal_has ite List.lookup); (with_reducible refine Mine.fr_let ?_); intro zqm; goal_lacks ite List.lookup; intro zqF) | ((ctx_mentions List.cons HAppend.hAppend List.append); (rename News _ _ _ _ => zqN9); (fail_if_success (fail_if_success (conv at zqN9 => arg 4; arg 2))); (with_reducible refine Mine.news_let zqN9 ?_); intro zql zqN; clear zqN9) | (k_end; wrow_close) | (goal_has PySem.Stmt.For; ((fail_if_success (fail_if_success (with_reducible show wpAny _ _ (exec (PySem.Stmt.For (PySem.Expr.Name _ _) (PySem.Expr.Name _ _) (_ :: _) [] _) _) _ _ _))); (rename Fr _ _ _ _ => lF'); (with_unfolding_all refine' For_invVF lF' (by exact rfl) (by exact rfl) ?_; k_whole))) | (goal_has PySem.Value.builtin; first | ((fail_if_success (fail_if_success (with_reducible show wpAny _ _ (call (Value.builtin _) [Value.ref _, _]) _ _ _))); k_dflt (refine' append_K (by k_asm) (by k_asm) (by k_upd) ?_ (by ((rw [List.size_toArray, PySem.sizeLine_eq]); omega)); k_whole); intro zqh' zqF' zqN'; (try k_sweep)) | ((fail_if_success (fail_if_success (with_reducible show wpAny _ _ (call (Value.builtin "len") [Value.ref _]) _ _ _))); k_dflt (refine' Mine.len_filter (by assumption) (by assumption) (by first | assumption | omega) ?_; k_whole)) | ((fail_if_success (fail_if_success (with_reducible show wpAny _ _ (call (Value.builtin "sorted") [Value.ref _]) _ _ _))); k_dflt (refine' Mine.sorted_nil (by exact rfl) (by k_asm) (by k_asm) (by k_mem) (by k_asm) (by k_asm) ?_); intro zqD' zqn' zqh' zqtk' zqF' zqN' zql1; (try k_lt zql1); (try k_sweep)) | ((fail_if_success (fail_if_success (with_reducible show wpAny _ _ (call (Value.builtin "len") [Value.ref _]) _ _ _))); k_dflt (refine' kst_len (by k_asm) (by k_mem) (by exact IntsAre.length (by assumption)) (by omega) ?_; k_whole)) | ((fail_if_success (fail_if_success (with_reducible show wpAny _ _ (call (Value.builtin _) [Value.ref _, Value.int _ _]) _ _ _))); k_dflt (refine' Mine.pop0 (by k_asm) (by k_asm) (by k_upd) (by ((simp only [List.length_cons, sizeLine_eq]); omega)) ?_; k_whole); intro zqh' zqF' zqN'; (try k_sweep))) | (goal_has subscriptTail; first | ((fail_if_success (fail_if_success (with_reducible show wpAny _ _ (subscriptTail _ _ (Value.ref _) (Value.int _ _)) _ _ _))); k_dflt (refine' Mine.item_ints (by k_asm) (by k_mem) (by assumption) (by omega) (by omega) (by omega) ?_); intro zqx' zqt' zqhx') | ((fail_if_success (fail_if_success (with_reducible show wpAny _ _ (subscriptTail _ (PySem.Expr.Slice _ _ none _) (Value.ref _) (Value.ref _)) _ _ _))); k_dflt (refine' Mine.cut_slice (by k_asm) (by k_asm) (by k_mem) (by exact IsPart.int _ _) (by exact IsPart.int _ _) (by first | decide | omega) (by first | decide | omega) (by assumption) (by first | assumption | exact rfl) (by omega) ?_ (by with_unfolding_all rfl) (by kmk_pure)); intro zqD' zqh' zqws' zqzs' zqhzs' zqhzl' zqhzi' zqF' zqN' zql1; (try k_lt zql1); (try k_sweep))) | (goal_has binaryOp; first | ((fail_if_success (fail_if_success (with_reducible show wpAny _ _ (binaryOp Operator.Mult (Value.ref _) (Value.int _ _)) _ _ _))); k_dflt (refine' Mine.rep_list (by k_asm) (by k_asm) (by k_mem) (by first | decide | omega) (by first | decide | omega) ?_); intro zqD' zqh' zqws' zqzs' zqhzs' zqhzl' zqhzi' zqF' zqN' zql1; (try k_lt zql1); (try k_sweep)) | ((fail_if_success (fail_if_success (with_reducible show wpAny _ _ (binaryOp Operator.FloorDiv (Value.int _ _) (Value.int _ _)) _ _ _))); refine floordiv_int (by omega) ?_ (Or.inl (PyProof.noPylong_small (by omega))))) | (goal_has setItem; ((fail_if_success (fail_if_success (with_reducible show wpAny _ _ (setItem (Value.ref _) (Value.ref _) (Value.ref _)) _ _ _))); k_dflt (refine' Mine.set_slice_ints (by k_asm) (by k_asm) (by exact IsPart.int _ _) (by exact IsPart.int _ _) (by (intro zqo'; k_upd)) (by k_mem) (by first | decide | omega) (by first | decide | omega) (by k_ne) (by assumption) (by first | assumption | exact IntsAre.nil) (by first | assumption | exact rfl) (by first | assumption | exact rfl) (by omega) ?_); intro zqh' zqws' zqzs' zqn' zqhzs' zqhzl' zqhzi' zqF' zqN'; (try dsimp only at zqN'); (try k_sweep))) | (goal_has pyIter; ((fail_if_success (fail_if_success (with_reducible show wpAny _ _ (pyIter (Value.ref _)) (fun it s₂ => LoopAtV _ _ _ _ _ _ _ _ _ it s₂) _ _))); k_dflt (refine' Mine.iter_nil (by exact rfl) (by k_asm) (by k_asm) (by k_mem) ?_); intro zqh' zqtk' zqF' zqN'; (try k_sweep))) | (goal_has call; (fail_if_success (fail_if_success (with_reducible show wpAny _ _ (call (Value.ref _) _ _) _ _ _))); first | (k_dflt (first | (refine' call_cls0 (by k_asm) (by k_asm) (by k_asm) (by k_is) (by k_is) ?_; k_whole; intro zqx zqd zqh zqF zqN zql1 zql2; (try ((have zqU := Mine.lts_up zql1 zql2); (dsimp +zetaDelta only [List.map] at zqU))); (try k_lt zql1); (try k_lt2 zql2); (try k_sweep)) | ((first | (refine' call_cls (by k_asm) (by k_asm) (by k_asm) (by k_is) (by k_is) (by k_is) ?_; k_whole; intro zqx zqd zqh zqF zqN zql1 zql2; (try ((have zqU := Mine.lts_up zql1 zql2); (dsimp +zetaDelta only [List.map] at zqU))); (try k_lt zql1); (try k_lt2 zql2); (try k_sweep)) | (refine' Mine.call_fn (by k_asm) (by k_is) ?_; k_whole) | (refine' call_meth (by k_asm) (by k_mem) ?_; k_whole) | refine wpAny_call ?_); (first | (refine' code_defL (by exact rfl) (by exact rfl) (by first | exact rfl | assumption) (by k_asm) (by k_asm) (by k_asm) (by k_asm) (by k_asm) (by k_is) (by k_is) (by decide) (by ktr_room) (by first | exact BindsTo.of_eq rfl | exact binds_K (by k_in) rfl (by k_is) rfl rfl rfl) (by exact locs rfl) (by exact rfl) (by exact rfl) (by exact rfl) ?_; k_whole; intro zqg zqL zqh zqtk zqFG zqF zqN zqB zqX zqT zqe zqA; (try k_lift zqB); (try ((fail_if_success (fail_if_success k_fold)); (with_reducible refine Mine.wp_fold ?_); intro zqq zqe))) | (refine' code_defCL (by exact rfl) (by exact rfl) (by exact rfl) (by k_asm) (by k_asm) (by k_asm) (by k_asm) (by k_asm) (by k_is) (by k_is) (by ktr_room) (by first | exact BindsTo.of_eq rfl | exact binds_K (by k_in) rfl (by k_is) rfl rfl rfl) (by exact rfl) (by decide +kernel) (by exact rfl) (by exact rfl) (by exact rfl) ?_; k_whole; intro zqg zqL zqh zqtk zqcells zqFG zqF zqN zqY zqB zqX zqT zql1 zqe zqA; (try k_lt zql1); k_cells zqY; (try simp only [List.cons_append, List.nil_append] at zqN); (try dsimp only); (try k_lift zqB); (try ((fail_if_success (fail_if_success k_fold)); (with_reducible refine Mine.wp_fold ?_); intro zqq zqe)))))))) | walk1 | (dsimp only; walk1) | ((with_reducible show wpAny _ _ _ _ _ _); dsimp only) | (leave1; walk_say "STEP leave1"; (first | (with_reducible refine (?_ : wpAny _ _ _ _ _ _)) | try dsimp only)))))
end Mine
set_option maxRecDepth 100000 in
theorem PySem.Challenge.cw_on0075_01_holds : PySem.Challenge.rw_on0075_01.Holds :=
  Mine.hdT
