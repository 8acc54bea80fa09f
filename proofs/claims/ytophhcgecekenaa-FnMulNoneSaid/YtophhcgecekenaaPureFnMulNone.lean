/- What is left of the law FnMulNone (a statement over numbers and lists alone) is proved in YtophhcgecekenaaPureS; no condition. -/
import Derived.Test.YtophhcgecekenaaPureS
